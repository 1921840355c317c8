import PyProof.Rows.All
import Wide.All
import OpenK.AllK
import Wide.FinOn
import HandS.ForMost
import HandS.Exc
import HandS.WordsExc
import HandS.OwnEq
import HandS.Property
import HandS.Deep
import HandS.Wide
import HandS.TupAny
import HandS.NoneIn
import HandS.Strs
import HandS.Zip
import HandS.Iter
import HandS.ExcInit
import HandS.ExcField
import KE.KExcIs
import HandS.IsInst
import HandS.TryOnly
import PyProof.InstNe
import PyProof.FactsAll.zip_1
import KE.SortData
import PyProof.ReprRoads
import HandS.Ends
import HandS.Style
import HandS.Dict
import HandS.Star
import PyProof.ReprLen
import PySem.Challenge.RW_lookcrowd_k24_rules_that_follow
set_option Elab.async false
set_option linter.all false
set_option maxHeartbeats 4000000
set_option maxRecDepth 100000
/-! The D layer, 1: data, stores, how a heap bears them; expressions. -/
namespace DL
open PySem PySem.Spec PyProof.Rows L2

/-- a value as data: lists and instances that never change again are told whole, what may change is a cell of the store -/
inductive Dv where
  | non | bl (b : Bool) | int (i : Int) | str (x : Str)
  | tup (l : List Dv) | ktup (l : List Dv) | lst (l : List Dv) | ro (l : List Dv)
  | ins (c : Nat) (fs : List (Str × Dv))
  | dic (l : List (List L2.Key × Dv))
  | cell (k : Nat)
  | con (v : V)
  | exn (a dd : Addr) (c : Nat) (d : Dv)
  | cls (c : Nat)
/-- what stands in a cell -/
inductive Ob where
  | lst (l : List Dv) | ins (c : Nat) (fs : List (Str × Dv)) | dic (l : List (List L2.Key × Dv)) | dik (l : List (L2.Key × Dv)) | gone
abbrev Sto := List Ob
/-- an outcome -/
inductive Re (α : Type) where
  | ok (a : α) (S : Sto) | exc (c : Nat) (d : Dv) (S : Sto) | bad
def Re.bind {α β : Type} : Re α → (α → Sto → Re β) → Re β
  | .ok a S, k => k a S
  | .exc c d S, _ => .exc c d S
  | .bad, _ => .bad
@[simp] theorem Re.bind_ok {α β : Type} (a : α) (S : Sto) (k : α → Sto → Re β) : (Re.ok a S).bind k = k a S := rfl
@[simp] theorem Re.bind_exc {α β : Type} (c : Nat) (d : Dv) (S : Sto) (k : α → Sto → Re β) : (Re.exc c d S : Re α).bind k = .exc c d S := rfl
@[simp] theorem Re.bind_bad {α β : Type} (k : α → Sto → Re β) : (Re.bad : Re α).bind k = .bad := rfl
abbrev En := List (Option Dv)

/-- the written part, the classes by number -/
structure Ev where
  K : PySem.W.Frag
  γ : Nat → Addr

mutual
inductive Rep (M : Ev) (F : Hp) (θ : List Addr) : V → Dv → Prop
  | non : Rep M F θ .non .non
  | bl (b : Bool) : Rep M F θ (.bl b) (.bl b)
  | int (i : Int) : Rep M F θ (.int i) (.int i)
  | str (x : Str) : Rep M F θ (.str x) (.str x)
  | tup {a : Addr} {xs : List V} {ds : List Dv} : F a = some (.tup xs) → Reps M F θ xs ds → Rep M F θ (.ref a) (.tup ds)
  | ktup {a : Addr} {o : Obj} {xs : List V} {ds : List Dv} : F a = some (.frz o (.tup xs)) → o.dict = none → Reps M F θ xs ds → Rep M F θ (.ref a) (.ktup ds)
  | lst {a : Addr} {xs : List V} {ds : List Dv} : F a = some (.lst xs) → Reps M F θ xs ds → Rep M F θ (.ref a) (.lst ds)
  | ro {a : Addr} {xs : List V} {ds : List Dv} : SqL M.K F a xs → Reps M F θ xs ds → Rep M F θ (.ref a) (.ro ds)
  | ins {a dx : Addr} {c : Nat} {fs : List (Str × V)} {gs : List (Str × Dv)} : F a = some (.ins (M.γ c) dx fs) → RepF M F θ fs gs → Rep M F θ (.ref a) (.ins c gs)
  | dic {a : Addr} {kvs : List (List L2.Key × V)} {l : List (List L2.Key × Dv)} : F a = some (.dT kvs) → RepK M F θ kvs l → Rep M F θ (.ref a) (.dic l)
  | cell {k : Nat} {a : Addr} : θ[k]? = some a → Rep M F θ (.ref a) (.cell k)
  | con (v : V) : Rep M F θ v (.con v)
  | exn {a dd : Addr} {c : Nat} {v : V} {d : Dv} : F dd = some (.xd [("value", v)]) → Rep M F θ v d → Rep M F θ (.ref a) (.exn a dd c d)
  | cls (c : Nat) : Rep M F θ (.ref (M.γ c)) (.cls c)
inductive Reps (M : Ev) (F : Hp) (θ : List Addr) : List V → List Dv → Prop
  | nil : Reps M F θ [] []
  | cons {v : V} {d : Dv} {vs : List V} {ds : List Dv} : Rep M F θ v d → Reps M F θ vs ds → Reps M F θ (v :: vs) (d :: ds)
inductive RepF (M : Ev) (F : Hp) (θ : List Addr) : List (Str × V) → List (Str × Dv) → Prop
  | nil : RepF M F θ [] []
  | cons {f : Str} {v : V} {d : Dv} {vs : List (Str × V)} {ds : List (Str × Dv)} : Rep M F θ v d → RepF M F θ vs ds → RepF M F θ ((f, v) :: vs) ((f, d) :: ds)
inductive RepK (M : Ev) (F : Hp) (θ : List Addr) : List (List L2.Key × V) → List (List L2.Key × Dv) → Prop
  | nil : RepK M F θ [] []
  | cons {f : List L2.Key} {v : V} {d : Dv} {vs : List (List L2.Key × V)} {ds : List (List L2.Key × Dv)} : Rep M F θ v d → RepK M F θ vs ds → RepK M F θ ((f, v) :: vs) ((f, d) :: ds)
end

/-- one key as a row of keys -/
def one {κ β : Type} (x : κ × β) : List κ × β := ([x.1], x.2)
def RepO (M : Ev) (F : Hp) (θ : List Addr) : HO → Ob → Prop
  | .lst xs, .lst ds => Reps M F θ xs ds
  | .ins C _ fs, .ins c gs => C = M.γ c ∧ RepF M F θ fs gs
  | .dT kvs, .dic l => RepK M F θ kvs l
  | .dK kvs, .dik l => RepK M F θ (kvs.map one) (l.map one)
  | _, _ => False

/-- the frozen part grows, the cells' places grow at the end -/
structure Gr (F F' : Hp) (θ θ' : List Addr) : Prop where
  le : ∀ a o, F a = some o → F' a = some o
  pre : ∀ (k : Nat) (a : Addr), θ[k]? = some a → θ'[k]? = some a
theorem Gr.rfl {F : Hp} {θ : List Addr} : Gr F F θ θ := ⟨fun _ _ h => h, fun _ _ h => h⟩
theorem Gr.trans {F F1 F2 : Hp} {θ θ1 θ2 : List Addr} (a : Gr F F1 θ θ1) (b : Gr F1 F2 θ1 θ2) : Gr F F2 θ θ2 := ⟨fun x o h => b.le x o (a.le x o h), fun k x h => b.pre k x (a.pre k x h)⟩
theorem Gr.sqT {K : PySem.W.Frag} {F F' : Hp} {θ θ' : List Addr} {a : Addr} {xs : List V} (e : Gr F F' θ θ') (h : SqT K F a xs) : SqT K F' a xs := by
  rcases h with (h | ⟨o, h⟩) | h
  · exact .inl (.inl (e.le _ _ h))
  · exact .inl (.inr ⟨o, e.le _ _ h⟩)
  · exact .inr h
theorem Gr.sqL {K : PySem.W.Frag} {F F' : Hp} {θ θ' : List Addr} {a : Addr} {xs : List V} (e : Gr F F' θ θ') (h : SqL K F a xs) : SqL K F' a xs := by
  rcases h with (h | ⟨o, h⟩) | h
  · exact .inl (.inl (e.le _ _ h))
  · exact .inl (.inr ⟨o, e.le _ _ h⟩)
  · exact .inr h
section
variable {M : Ev} {Φ : Hp} {F F' : Hp} {θ θ' : List Addr}
mutual
theorem Rep.ext (e : Gr F F' θ θ') : ∀ {v : V} {d : Dv}, Rep M F θ v d → Rep M F' θ' v d
  | _, _, .non => .non
  | _, _, .bl b => .bl b
  | _, _, .int i => .int i
  | _, _, .str x => .str x
  | _, _, .tup h r => .tup (e.le _ _ h) (Reps.ext e r)
  | _, _, .ktup h h2 r => .ktup (e.le _ _ h) h2 (Reps.ext e r)
  | _, _, .lst h r => .lst (e.le _ _ h) (Reps.ext e r)
  | _, _, .ro h r => .ro (e.sqL h) (Reps.ext e r)
  | _, _, .ins h r => .ins (e.le _ _ h) (RepF.ext e r)
  | _, _, .dic h r => .dic (e.le _ _ h) (RepK.ext e r)
  | _, _, .cell h => .cell (e.pre _ _ h)
  | _, _, .con v => .con v
  | _, _, .exn h r => .exn (e.le _ _ h) (Rep.ext e r)
  | _, _, .cls c => .cls c
theorem Reps.ext (e : Gr F F' θ θ') : ∀ {v : List V} {d : List Dv}, Reps M F θ v d → Reps M F' θ' v d
  | _, _, .nil => .nil
  | _, _, .cons h r => .cons (Rep.ext e h) (Reps.ext e r)
theorem RepF.ext (e : Gr F F' θ θ') : ∀ {v : List (Str × V)} {d : List (Str × Dv)}, RepF M F θ v d → RepF M F' θ' v d
  | _, _, .nil => .nil
  | _, _, .cons h r => .cons (Rep.ext e h) (RepF.ext e r)
theorem RepK.ext (e : Gr F F' θ θ') : ∀ {v : List (List L2.Key × V)} {d : List (List L2.Key × Dv)}, RepK M F θ v d → RepK M F' θ' v d
  | _, _, .nil => .nil
  | _, _, .cons h r => .cons (Rep.ext e h) (RepK.ext e r)
end
theorem RepO.ext (e : Gr F F' θ θ') : ∀ {o : HO} {ob : Ob}, RepO M F θ o ob → RepO M F' θ' o ob := by
  intro o ob h
  cases o <;> cases ob <;> first | exact h.elim | exact Reps.ext e h | exact ⟨h.1, RepF.ext e h.2⟩ | exact RepK.ext e h
theorem Reps.length : ∀ {v : List V} {d : List Dv}, Reps M F θ v d → v.length = d.length
  | _, _, .nil => rfl
  | _, _, .cons _ r => congrArg (· + 1) (Reps.length r)
theorem Reps.get : ∀ {v : List V} {d : List Dv} {i : Nat} {x : Dv}, Reps M F θ v d → d[i]? = some x → ∃ u, v[i]? = some u ∧ Rep M F θ u x
  | _, _, _, _, .nil, h => by simp at h
  | _, _, 0, _, .cons r _, h => by simp at h; subst h; exact ⟨_, rfl, r⟩
  | _, _, i + 1, _, .cons _ t, h => by
    obtain ⟨u, h1, h2⟩ := Reps.get (i := i) t (by simpa using h)
    exact ⟨u, by simpa using h1, h2⟩
theorem Reps.getV : ∀ {v : List V} {d : List Dv} {i : Nat} {u : V}, Reps M F θ v d → v[i]? = some u → ∃ x, d[i]? = some x ∧ Rep M F θ u x
  | _, _, _, _, .nil, h => by simp at h
  | _, _, 0, _, .cons r _, h => by simp at h; subst h; exact ⟨_, rfl, r⟩
  | _, _, i + 1, _, .cons _ t, h => by
    obtain ⟨u, h1, h2⟩ := Reps.getV (i := i) t (by simpa using h)
    exact ⟨u, by simpa using h1, h2⟩
theorem Reps.append : ∀ {v v' : List V} {d d' : List Dv}, Reps M F θ v d → Reps M F θ v' d' → Reps M F θ (v ++ v') (d ++ d')
  | _, _, _, _, .nil, h => h
  | _, _, _, _, .cons r t, h => .cons r (Reps.append t h)
theorem Reps.set {u : V} {x : Dv} (r : Rep M F θ u x) : ∀ {v : List V} {d : List Dv} (i : Nat), Reps M F θ v d → Reps M F θ (v.set i u) (d.set i x)
  | _, _, _, .nil => .nil
  | _, _, 0, .cons _ t => .cons r t
  | _, _, i + 1, .cons q t => .cons q (Reps.set r i t)
theorem Reps.drop : ∀ {v : List V} {d : List Dv} (i : Nat), Reps M F θ v d → Reps M F θ (v.drop i) (d.drop i)
  | _, _, 0, h => h
  | _, _, _ + 1, .nil => .nil
  | _, _, i + 1, .cons _ t => Reps.drop i t
theorem Reps.take : ∀ {v : List V} {d : List Dv} (i : Nat), Reps M F θ v d → Reps M F θ (v.take i) (d.take i)
  | _, _, 0, _ => .nil
  | _, _, _ + 1, .nil => .nil
  | _, _, i + 1, .cons q t => .cons q (Reps.take i t)
theorem RepF.lookup (f : Str) : ∀ {fs : List (Str × V)} {gs : List (Str × Dv)}, RepF M F θ fs gs → (∀ d, gs.lookup f = some d → ∃ v, fs.lookup f = some v ∧ Rep M F θ v d) ∧ (gs.lookup f = none → fs.lookup f = none)
  | _, _, .nil => ⟨fun _ h => by simp at h, fun _ => rfl⟩
  | _, _, .cons (f := g) r t => by
    have ih := RepF.lookup f t
    simp only [List.lookup]
    cases e : f == g with
    | true => exact ⟨fun d h => by simp at h; subst h; exact ⟨_, rfl, r⟩, fun h => by simp at h⟩
    | false => exact ih
theorem RepF.length : ∀ {fs : List (Str × V)} {gs : List (Str × Dv)}, RepF M F θ fs gs → fs.length = gs.length
  | _, _, .nil => rfl
  | _, _, .cons _ r => congrArg (· + 1) (RepF.length r)
/-- a field stored -/
def putD (f : Str) (v : Dv) : List (Str × Dv) → List (Str × Dv)
  | [] => [(f, v)]
  | (g, w) :: r => if g = f then (g, v) :: r else (g, w) :: putD f v r
theorem RepF.put {f : Str} {v : V} {d : Dv} (h : Rep M F θ v d) : ∀ {fs : List (Str × V)} {gs : List (Str × Dv)}, RepF M F θ fs gs → RepF M F θ (putF f v fs) (putD f d gs)
  | _, _, .nil => .cons h .nil
  | _, _, .cons (f := g) r t => by
    show RepF M F θ (if g = f then _ else _) (if g = f then _ else _)
    by_cases e : g = f
    · rw [if_pos e, if_pos e]; exact .cons h t
    · rw [if_neg e, if_neg e]; exact .cons r (RepF.put h t)
end

structure HA (M : Ev) (Φ F : Hp) (θ : List Addr) (S : Sto) (H : Hp) : Prop where
  sub : ∀ a o, F a = some o → H a = some o
  len : θ.length = S.length
  nd : θ.Nodup
  trk : ∀ a ∈ θ, H a ≠ none
  live : ∀ (k : Nat) (a : Addr) (ob : Ob), θ[k]? = some a → S[k]? = some ob → ob ≠ .gone → F a = none ∧ ∃ o, H a = some o ∧ RepO M F θ o ob
  fr : ∀ a o, Φ a = some o → H a = some o ∧ F a = none ∧ a ∉ θ
structure EA (M : Ev) (F : Hp) (θ : List Addr) (σ : L2.St) (ρ : En) : Prop where
  len : ρ.length = σ.length
  at_ : ∀ (i : Nat) (d : Dv), ρ[i]? = some (some d) → ∃ v, σ[i]? = some (some v) ∧ Rep M F θ v d
section
variable {M : Ev} {Φ : Hp} {F F' : Hp} {θ θ' : List Addr} {S : Sto} {H : Hp} {σ : L2.St} {ρ : En}
theorem EA.ext (e : Gr F F' θ θ') (h : EA M F θ σ ρ) : EA M F' θ' σ ρ := ⟨h.len, fun i d q => let ⟨v, a, b⟩ := h.at_ i d q; ⟨v, a, b.ext e⟩⟩
theorem EA.set {v : V} {d : Dv} (h : EA M F θ σ ρ) (i : Nat) (r : Rep M F θ v d) : EA M F θ (σ.set i (some v)) (ρ.set i (some d)) := by
  refine ⟨by rw [List.length_set, List.length_set]; exact h.len, fun j d' q => ?_⟩
  by_cases e : i = j
  · subst e
    have hlt : i < ρ.length := by
      have z := (List.getElem?_eq_some_iff.mp q).1
      rw [List.length_set] at z
      exact z
    rw [List.getElem?_set_self hlt] at q
    cases q
    exact ⟨v, by rw [List.getElem?_set_self (by rw [← h.len]; exact hlt)], r⟩
  · rw [List.getElem?_set_ne e] at q
    obtain ⟨u, a, b⟩ := h.at_ j d' q
    exact ⟨u, by rw [List.getElem?_set_ne e]; exact a, b⟩
/-- a new frozen object -/
theorem HA.alloc {p : Addr} (o : HO) (h : HA M Φ F θ S H) (hp : H p = none) : Gr F (upd F p o) θ θ ∧ HA M Φ (upd F p o) θ S (upd H p o) := by
  have hF : F p = none := by
    cases q : F p with
    | none => rfl
    | some u => rw [h.sub _ _ q] at hp; cases hp
  have e : Gr F (upd F p o) θ θ := ⟨fun a u q => by rw [upd_ne (ne_of_none q hF)]; exact q, fun _ _ q => q⟩
  have nt : ∀ a ∈ θ, a ≠ p := fun a ha z => h.trk a ha (z ▸ hp)
  refine ⟨e, ⟨fun a u q => ?_, h.len, h.nd, fun a ha => ?_, fun k a ob h1 h2 h3 => ?_, fun a u q => ?_⟩⟩
  · by_cases z : a = p
    · subst z; rw [upd_same] at q ⊢; exact q
    · rw [upd_ne z] at q ⊢; exact h.sub _ _ q
  · rw [upd_ne (nt a ha)]; exact h.trk a ha
  · have z := nt a (List.mem_of_getElem? h1)
    obtain ⟨h4, o', h5, h6⟩ := h.live k a ob h1 h2 h3
    exact ⟨by rw [upd_ne z]; exact h4, o', by rw [upd_ne z]; exact h5, h6.ext e⟩
  · obtain ⟨g1, g2, g3⟩ := h.fr a u q
    have z := ne_of_none g1 hp
    exact ⟨by rw [upd_ne z]; exact g1, by rw [upd_ne z]; exact g2, g3⟩
/-- heaps that differ beside -/
theorem HA.same {H' : Hp} (h : HA M Φ F θ S H) (k : ∀ a o, H a = some o → H' a = some o) : HA M Φ F θ S H' := by
  refine ⟨fun a o q => k _ _ (h.sub a o q), h.len, h.nd, fun a ha z => ?_, fun i a ob h1 h2 h3 => ?_, fun a o q => let ⟨g1, g2, g3⟩ := h.fr a o q; ⟨k _ _ g1, g2, g3⟩⟩
  · cases q : H a with
    | none => exact h.trk a ha q
    | some o => rw [k _ _ q] at z; cases z
  · obtain ⟨h4, o, h5, h6⟩ := h.live i a ob h1 h2 h3
    exact ⟨h4, o, k _ _ h5, h6⟩
/-- a new cell -/
theorem HA.newCell {p : Addr} {o : HO} {ob : Ob} (h : HA M Φ F θ S H) (hp : H p = none) (r : RepO M F θ o ob) : Gr F F θ (θ ++ [p]) ∧ HA M Φ F (θ ++ [p]) (S ++ [ob]) (upd H p o) := by
  have e : Gr F F θ (θ ++ [p]) := ⟨fun _ _ q => q, fun k a q => by
    have := (List.getElem?_eq_some_iff.mp q).1
    rw [List.getElem?_append_left this]; exact q⟩
  have hF : F p = none := by
    cases q : F p with
    | none => rfl
    | some u => rw [h.sub _ _ q] at hp; cases hp
  have nt : ∀ a ∈ θ, a ≠ p := fun a ha z => h.trk a ha (z ▸ hp)
  refine ⟨e, ⟨fun a u q => ?_, by simp [h.len], ?_, fun a ha => ?_, fun k a ob' h1 h2 h3 => ?_, fun a u q => ?_⟩⟩
  · rw [upd_ne (ne_of_none q hF)]; exact h.sub _ _ q
  · rw [List.nodup_append]
    refine ⟨h.nd, by simp, fun a ha b hb => ?_⟩
    have : b = p := by simpa using hb
    subst this
    exact nt a ha
  · rcases List.mem_append.mp ha with q | q
    · rw [upd_ne (nt a q)]; exact h.trk a q
    · have : a = p := by simpa using q
      subst this
      rw [upd_same]; exact fun z => nomatch z
  · by_cases hk : k < θ.length
    · rw [List.getElem?_append_left hk] at h1
      rw [List.getElem?_append_left (by rw [← h.len]; exact hk)] at h2
      have z := nt a (List.mem_of_getElem? h1)
      obtain ⟨h4, o', h5, h6⟩ := h.live k a ob' h1 h2 h3
      exact ⟨h4, o', by rw [upd_ne z]; exact h5, h6.ext e⟩
    · have hk2 : k = θ.length := by
        have := (List.getElem?_eq_some_iff.mp h1).1
        rw [List.length_append, List.length_singleton] at this
        omega
      subst hk2
      rw [List.getElem?_append_right (Nat.le_refl _), Nat.sub_self] at h1
      rw [h.len, List.getElem?_append_right (Nat.le_refl _), Nat.sub_self] at h2
      cases h1
      cases h2
      exact ⟨hF, o, upd_same, r.ext e⟩
  · obtain ⟨g1, g2, g3⟩ := h.fr a u q
    have z := ne_of_none g1 hp
    exact ⟨by rw [upd_ne z]; exact g1, g2, fun m => (List.mem_append.mp m).elim g3 fun m => z (by simpa using m)⟩
/-- a cell's content changes -/
theorem HA.setCell {k : Nat} {a : Addr} {o' : HO} {ob ob' : Ob} (h : HA M Φ F θ S H) (h1 : θ[k]? = some a) (h2 : S[k]? = some ob) (h3 : ob ≠ .gone) (r : RepO M F θ o' ob') : HA M Φ F θ (S.set k ob') (upd H a o') := by
  obtain ⟨h4, _, h5, h6⟩ := h.live k a ob h1 h2 h3
  refine ⟨fun b u q => ?_, by rw [List.length_set]; exact h.len, h.nd, fun b hb => ?_, fun j b ob2 q1 q2 q3 => ?_, fun b u q => ?_⟩
  · rw [upd_ne (ne_of_none q h4)]; exact h.sub _ _ q
  · by_cases z : b = a
    · subst z; rw [upd_same]; exact fun w => nomatch w
    · rw [upd_ne z]; exact h.trk b hb
  · by_cases e : k = j
    · subst e
      rw [h1] at q1; cases q1
      rw [List.getElem?_set_self (List.getElem?_eq_some_iff.mp h2).1] at q2
      cases q2
      exact ⟨h4, o', upd_same, r⟩
    · rw [List.getElem?_set_ne e] at q2
      have z : b ≠ a := fun w => by
        subst w
        have l1 := (List.getElem?_eq_some_iff.mp h1)
        have l2 := (List.getElem?_eq_some_iff.mp q1)
        exact e ((List.getElem_inj h.nd).mp (l1.2.trans l2.2.symm))
      obtain ⟨g4, o2, g5, g6⟩ := h.live j b ob2 q1 q2 q3
      exact ⟨g4, o2, by rw [upd_ne z]; exact g5, g6⟩
  · obtain ⟨g1, g2, g3⟩ := h.fr b u q
    have z : b ≠ a := fun w => g3 (w ▸ List.mem_of_getElem? h1)
    exact ⟨by rw [upd_ne z]; exact g1, g2, g3⟩
/-- a cell is frozen: from now on its content is data -/
theorem HA.freeze {k : Nat} {a : Addr} {ob : Ob} (h : HA M Φ F θ S H) (h1 : θ[k]? = some a) (h2 : S[k]? = some ob) (h3 : ob ≠ .gone) : ∃ o, H a = some o ∧ RepO M F θ o ob ∧ Gr F (upd F a o) θ θ ∧ HA M Φ (upd F a o) θ (S.set k .gone) H := by
  obtain ⟨h4, o, h5, h6⟩ := h.live k a ob h1 h2 h3
  have e : Gr F (upd F a o) θ θ := ⟨fun b u q => by rw [upd_ne (ne_of_none q h4)]; exact q, fun _ _ q => q⟩
  refine ⟨o, h5, h6, e, ⟨fun b u q => ?_, by rw [List.length_set]; exact h.len, h.nd, h.trk, fun j b ob2 q1 q2 q3 => ?_, fun b u q => ?_⟩⟩
  · by_cases z : b = a
    · subst z; rw [upd_same] at q; cases q; exact h5
    · rw [upd_ne z] at q; exact h.sub _ _ q
  · by_cases e' : k = j
    · subst e'
      rw [List.getElem?_set_self (List.getElem?_eq_some_iff.mp h2).1] at q2
      cases q2
      exact absurd rfl q3
    · rw [List.getElem?_set_ne e'] at q2
      have z : b ≠ a := fun w => by
        subst w
        have l1 := (List.getElem?_eq_some_iff.mp h1)
        have l2 := (List.getElem?_eq_some_iff.mp q1)
        exact e' ((List.getElem_inj h.nd).mp (l1.2.trans l2.2.symm))
      obtain ⟨g4, o2, g5, g6⟩ := h.live j b ob2 q1 q2 q3
      exact ⟨by rw [upd_ne z]; exact g4, o2, g5, g6.ext e⟩
  · obtain ⟨g1, g2, g3⟩ := h.fr b u q
    have z : b ≠ a := fun w => g3 (w ▸ List.mem_of_getElem? h1)
    exact ⟨g1, by rw [upd_ne z]; exact g2, g3⟩
end

/-! ### what is wanted of an outcome -/
section
variable {α β : Type}
def PostG (M : Ev) (Φ : Hp) (W : WX) (σ : L2.St) (F : Hp) (θ : List Addr) (R : Hp → List Addr → β → α → Prop) (r : Re α) (Q : β → Hp → Prop) : Prop :=
  match r with
  | .ok a S' => ∀ b F' θ' H', Gr F F' θ θ' → HA M Φ F' θ' S' H' → R F' θ' b a → Q b H'
  | .exc c d S' => ∀ dd v F' θ' H', Gr F F' θ θ' → HA M Φ F' θ' S' H' → F' dd = some (.xd [("value", v)]) → Rep M F' θ' v d → W (.ref (M.γ c)) (some dd) σ H'
  | .bad => False
theorem PostG.ext {M : Ev} {Φ : Hp} {W : WX} {σ : L2.St} {F F' : Hp} {θ θ' : List Addr} {R : Hp → List Addr → β → α → Prop} {r : Re α} {Q : β → Hp → Prop} (e : Gr F F' θ θ') (h : PostG M Φ W σ F θ R r Q) : PostG M Φ W σ F' θ' R r Q := by
  cases r with
  | ok a S' => exact fun b F2 θ2 H2 e2 h2 r2 => h b F2 θ2 H2 (e.trans e2) h2 r2
  | exc c d S' => exact fun dd v F2 θ2 H2 e2 h2 h3 r2 => h dd v F2 θ2 H2 (e.trans e2) h2 h3 r2
  | bad => exact h
theorem PostG.bind {γ' δ : Type} {M : Ev} {Φ : Hp} {W : WX} {σ : L2.St} {F : Hp} {θ : List Addr} {R0 : Hp → List Addr → β → α → Prop} {R : Hp → List Addr → δ → γ' → Prop} {r : Re α} {k : α → Sto → Re γ'} {Q : δ → Hp → Prop} (h : PostG M Φ W σ F θ R (r.bind k) Q) :
    PostG M Φ W σ F θ R0 r (fun b H' => ∃ F' θ' S' a, Gr F F' θ θ' ∧ HA M Φ F' θ' S' H' ∧ R0 F' θ' b a ∧ PostG M Φ W σ F' θ' R (k a S') Q) := by
  cases r with
  | ok a S' => exact fun b F2 θ2 H2 e2 h2 r2 => ⟨F2, θ2, S', a, e2, h2, r2, PostG.ext e2 h⟩
  | exc c d S' => exact h
  | bad => exact h
theorem PostG.seq {γ' δ : Type} {M : Ev} {Φ : Hp} {W : WX} {σ : L2.St} {F : Hp} {θ : List Addr} {R0 : Hp → List Addr → β → α → Prop} {R : Hp → List Addr → δ → γ' → Prop} {r : Re α} {k : α → Sto → Re γ'} {Q : δ → Hp → Prop} {Q' : β → Hp → Prop} (h : PostG M Φ W σ F θ R (r.bind k) Q)
    (hk : ∀ a S' b F' θ' H', r = .ok a S' → Gr F F' θ θ' → HA M Φ F' θ' S' H' → R0 F' θ' b a → PostG M Φ W σ F' θ' R (k a S') Q → Q' b H') : PostG M Φ W σ F θ R0 r Q' := by
  cases r with
  | ok a S' => exact fun b F2 θ2 H2 e2 h2 r2 => hk a S' b F2 θ2 H2 rfl e2 h2 r2 (PostG.ext e2 h)
  | exc c d S' => exact h
  | bad => exact h
/-- the plain way out -/
theorem PostG.ok {M : Ev} {Φ : Hp} {W : WX} {σ : L2.St} {F : Hp} {θ : List Addr} {R : Hp → List Addr → β → α → Prop} {a : α} {S : Sto} {Q : β → Hp → Prop} (h : PostG M Φ W σ F θ R (.ok a S) Q) {b : β} {H : Hp} (hh : HA M Φ F θ S H) (r : R F θ b a) : Q b H := h b F θ H .rfl hh r
end
def dG {α β : Type} (M : Ev) (W : WX) (R : Hp → List Addr → β → α → Prop) (f : En → Sto → Re α) : L2.St → Hp → (β → Hp → Prop) → Prop := fun σ H Q =>
  ∃ Φ ρ F θ S, EA M F θ σ ρ ∧ HA M Φ F θ S H ∧ PostG M Φ W σ F θ R (f ρ S) Q
abbrev Ex := En → Sto → Re Dv
abbrev Xs := En → Sto → Re (List Dv)
abbrev Tt := En → Sto → Re Bool
abbrev DE (γ : Nat → Addr) (X : Cx) (W : WX) (e : Expr) (f : Ex) : Prop := PE X e (dG ⟨X.K, γ⟩ W (Rep ⟨X.K, γ⟩) f)
abbrev DTt (γ : Nat → Addr) (X : Cx) (W : WX) (e : Expr) (f : Tt) : Prop := PT X e (dG ⟨X.K, γ⟩ W (fun _ _ b a => b = a) f)
abbrev DW (γ : Nat → Addr) (X : Cx) (W : WX) (e : Expr) (f : Tt) : Prop := PW X e (dG ⟨X.K, γ⟩ W (fun _ _ b a => b = a) f)
abbrev DAs (γ : Nat → Addr) (X : Cx) (W : WX) (es : List Expr) (f : Xs) : Prop := PA X es (dG ⟨X.K, γ⟩ W (Reps ⟨X.K, γ⟩) f)

theorem PE.weak {X : Cx} {e : Expr} {t u : TE} (h : PE X e t) (k : ∀ σ H Q, u σ H Q → t σ H Q) : PE X e u := ⟨fun pins s σ H Q I q => h.run pins s σ H Q I (k σ H Q q)⟩
theorem PT.weak {X : Cx} {e : Expr} {t u : TT} (h : PT X e t) (k : ∀ σ H Q, u σ H Q → t σ H Q) : PT X e u := ⟨fun pins s σ H Q I q => h.run pins s σ H Q I (k σ H Q q)⟩
theorem PW.weak {X : Cx} {e : Expr} {t u : TT} (h : PW X e t) (k : ∀ σ H Q, u σ H Q → t σ H Q) : PW X e u := ⟨fun wh pins s σ H Q I q => h.run wh pins s σ H Q I (k σ H Q q)⟩
theorem PA.weak {X : Cx} {es : List Expr} {t u : TA} (h : PA X es t) (k : ∀ σ H Q, u σ H Q → t σ H Q) : PA X es u := ⟨fun pos pins s σ H Q I q => h.run pos pins s σ H Q I (k σ H Q q)⟩
theorem PS.weak {X : Cx} {st : Stmt} {t u : TS} (h : PS X st t) (k : ∀ D σ H, u D σ H → t D σ H) : PS X st u := ⟨fun pins s σ H D I q => h.run pins s σ H D I (k D σ H q)⟩
theorem PSs.weak {X : Cx} {st : List Stmt} {t u : TS} (h : PSs X st t) (k : ∀ D σ H, u D σ H → t D σ H) : PSs X st u := ⟨fun pins s σ H D I q => h.run pins s σ H D I (k D σ H q)⟩

end DL

/-! The D layer, 2: expressions. -/
namespace DL
open PySem PySem.Spec PyProof.Rows L2

/-- what a body's context is known to be -/
structure Ctx (X : Cx) (W : WX) (N : List Str) (sc : Scope) (k : Nat) : Prop where
  hN : X.N = N
  hsc : X.env.scope = sc
  nd : N.Nodup
  calm : X.calm = true
  tk : Takes X W
  pw : PassesOwn (model X.prog X.w) X.A X.env X.xe
  gd : X.A.guards = some []
  hr : Room k X.A
/-- .. of a def's own body -/
structure CtxD (X : Cx) (W : WX) (N : List Str) (sc : Scope) (k : Nat) : Prop extends Ctx X W N sc k where
  fn : ∀ x, X.fn x = true
  st : X.stack = X.env :: X.outer
  fr : X.env.frame = some X.env.locals

section
variable {γ : Nat → Addr} {X : Cx} {W : WX} {N : List Str} {sc : Scope} {k : Nat} {pos : Pos}

/-! ### names, constants -/
def eV (i : Nat) : Ex := fun ρ S => match ρ[i]? with
  | some (some d) => .ok d S
  | _ => .bad
def eC (d : Dv) : Ex := fun _ S => .ok d S
theorem de_var (i : Nat) {x : Str} (c : Ctx X W N sc k) (hN : N[i]? = some x := by rfl) (hv : Vis sc x := by first | exact Or.inl rfl | exact Or.inr (Or.inl rfl) | exact Or.inr (Or.inr rfl))
    (hd : (x == ("__debug__" : Str)) = false := by decide) (hcd : (x == ("__classdict__" : Str)) = false := by decide) : DE γ X W (.Name x pos) (eV i) := by
  refine PE.weak (pe_var (i := i) (by rw [c.hN]; exact hN) (by rw [c.hsc]; exact hv) hd hcd) fun σ H Q ⟨Φ, ρ, F, θ, S, ea, ha, p⟩ => ?_
  unfold eV at p
  split at p
  · rename_i d e
    obtain ⟨v, hv, r⟩ := ea.at_ i d e
    exact ⟨v, hv, PostG.ok p ha r⟩
  · exact p.elim
theorem de_const {e : Expr} {v : V} {d : Dv} (h : PE X e (tC v)) (r : ∀ F θ, Rep ⟨X.K, γ⟩ F θ v d) : DE γ X W e (eC d) :=
  PE.weak h fun σ H Q ⟨Φ, ρ, F, θ, S, ea, ha, p⟩ => PostG.ok p ha (r F θ)
theorem de_int {i : Int} {j : Nat} : DE γ X W (.Constant (.int i) j pos) (eC (.int i)) := de_const pe_int fun _ _ => .int i
theorem de_bl {b : Bool} {j : Nat} : DE γ X W (.Constant (.bool b) j pos) (eC (.bl b)) := de_const pe_bl fun _ _ => .bl b
theorem de_non {j : Nat} : DE γ X W (.Constant .none j pos) (eC .non) := de_const pe_non fun _ _ => .non
theorem de_str {x : Str} {j : Nat} : DE γ X W (.Constant (.str x) j pos) (eC (.str x)) := de_const pe_str fun _ _ => .str x
theorem de_glob {x : Str} {v : V} {u : Value} {d : Dv} (hg : Gl X x) (hm : X.mg x = some u) (r : RelV v u) (rd : ∀ F θ, Rep ⟨X.K, γ⟩ F θ v d) (hd : (x == ("__debug__" : Str)) = false := by decide) : DE γ X W (.Name x pos) (eC d) :=
  de_const (pe_glob hg hm r hd) rd
theorem de_bltn {x : Str} {v : V} {u : Value} {d : Dv} (hg : Gl X x) (hm : X.mg x = none) (hv : bootBuiltins x = some u) (r : RelV v u) (rd : ∀ F θ, Rep ⟨X.K, γ⟩ F θ v d) (hn : x ≠ "__name__" := by decide) (hd : (x == ("__debug__" : Str)) = false := by decide) :
    DE γ X W (.Name x pos) (eC d) := de_const (pe_bltn hg hm hv r hn hd) rd

/-! ### operators by values -/
def e1 (g : Dv → Sto → Re Dv) (a : Ex) : Ex := fun ρ S => (a ρ S).bind fun x S1 => g x S1
def e2 (g : Dv → Dv → Sto → Re Dv) (a b : Ex) : Ex := fun ρ S => (a ρ S).bind fun x S1 => (b ρ S1).bind fun y S2 => g x y S2
/-- an operator of two values -/
def OpD (γ : Nat → Addr) (X : Cx) (W : WX) (f : Value → Value → Sem Value) (g : Dv → Dv → Sto → Re Dv) : Prop :=
  ∀ (pins : List (Addr × Obj)) (s : Shared) (σ : L2.St) (H : Hp) (x y : V) (v u : Value) (Q : VK) (Φ F : Hp) (θ : List Addr) (S : Sto) (d e : Dv), Inv X pins σ H s → RelV x v → RelV y u → Rep ⟨X.K, γ⟩ F θ x d → Rep ⟨X.K, γ⟩ F θ y e →
    HA ⟨X.K, γ⟩ Φ F θ S H → PostG ⟨X.K, γ⟩ Φ W σ F θ (Rep ⟨X.K, γ⟩) (g d e S) Q → wpAny (model X.prog X.w) X.A (f v u) (EP X pins σ Q) X.xe s
def UnD (γ : Nat → Addr) (X : Cx) (W : WX) (f : Value → Sem Value) (g : Dv → Sto → Re Dv) : Prop :=
  ∀ (pins : List (Addr × Obj)) (s : Shared) (σ : L2.St) (H : Hp) (x : V) (v : Value) (Q : VK) (Φ F : Hp) (θ : List Addr) (S : Sto) (d : Dv), Inv X pins σ H s → RelV x v → Rep ⟨X.K, γ⟩ F θ x d →
    HA ⟨X.K, γ⟩ Φ F θ S H → PostG ⟨X.K, γ⟩ Φ W σ F θ (Rep ⟨X.K, γ⟩) (g d S) Q → wpAny (model X.prog X.w) X.A (f v) (EP X pins σ Q) X.xe s
/-- by a rule of the hand layer -/
theorem OpD.of {f : Value → Value → Sem Value} {g : Dv → Dv → Sto → Re Dv} {r : R2} (h : OpR X f r)
    (k : ∀ Φ F θ S d e x y σ H Q, Rep ⟨X.K, γ⟩ F θ x d → Rep ⟨X.K, γ⟩ F θ y e → HA ⟨X.K, γ⟩ Φ F θ S H → PostG ⟨X.K, γ⟩ Φ W σ F θ (Rep ⟨X.K, γ⟩) (g d e S) Q → r x y H Q) : OpD γ X W f g :=
  fun pins s σ H x y v u Q Φ F θ S d e I rx ry rd re ha p => h pins s σ H x y v u Q I rx ry (k Φ F θ S d e x y σ H Q rd re ha p)
/-- two expressions, then what is made of their values -/
theorem de_bin {a b : Expr} {fa fb : Ex} {g : Dv → Dv → Sto → Re Dv} (ha : DE γ X W a fa) (hb : DE γ X W b fb) {pins : List (Addr × Obj)} {s : Shared} {σ : L2.St} {H : Hp} {Q : VK} (I : Inv X pins σ H s)
    (h : dG ⟨X.K, γ⟩ W (Rep ⟨X.K, γ⟩) (e2 g fa fb) σ H Q) {f : Value → Value → Sem Value} (hf : OpD γ X W f g) :
    wpAny (model X.prog X.w) X.A (eval a X.env) (fun v s₁ => wpAny (model X.prog X.w) X.A (eval b X.env) (fun u s₂ => wpAny (model X.prog X.w) X.A (f v u) (EP X pins σ Q) X.xe s₂) X.xe s₁) X.xe s := by
  obtain ⟨Φ, ρ, F, θ, S, ea, hh, p⟩ := h
  refine bin ha hb I (R := fun x y H2 => ∃ F θ S d e, Rep ⟨X.K, γ⟩ F θ x d ∧ Rep ⟨X.K, γ⟩ F θ y e ∧ HA ⟨X.K, γ⟩ Φ F θ S H2 ∧ PostG ⟨X.K, γ⟩ Φ W σ F θ (Rep ⟨X.K, γ⟩) (g d e S) Q) ?_ ?_
  · refine ⟨Φ, ρ, F, θ, S, ea, hh, PostG.seq p fun d S' x F' θ' H' _ e h' r p' => ?_⟩
    refine ⟨Φ, ρ, F', θ', S', ea.ext e, h', PostG.seq p' fun d2 S2 y F2 θ2 H2 _ e2 h2 r2 p2 => ?_⟩
    exact ⟨F2, θ2, S2, d, d2, r.ext e2, r2, h2, p2⟩
  · rintro v u s2 x y H2 I2 rx ry ⟨F2, θ2, S2, d, e, rd, re, h2, p2⟩
    exact hf pins s2 σ H2 x y v u Q Φ F2 θ2 S2 d e I2 rx ry rd re h2 p2
theorem de_op {op : Operator} {g : Dv → Dv → Sto → Re Dv} {a b : Expr} {fa fb : Ex} (ho : OpD γ X W (binaryOp op) g) (ha : DE γ X W a fa) (hb : DE γ X W b fb) : DE γ X W (.BinOp a op b pos) (e2 g fa fb) :=
  ⟨fun pins s σ H Q I h => wpAny_BinOp (de_bin ha hb I h ho)⟩
theorem de_cmp {op : CmpOp} {g : Dv → Dv → Sto → Re Dv} {a b : Expr} {fa fb : Ex} (ho : OpD γ X W (compareOp op) g) (ha : DE γ X W a fa) (hb : DE γ X W b fb) (hm : behindInMarks op b = false := by first | exact nobehind _ (by decide) (by decide) | rfl) :
    DE γ X W (.Compare a [op] [b] pos) (e2 g fa fb) := ⟨fun pins s σ H Q I h => wpAny_Compare1 (de_bin ha hb I h ho) hm⟩
theorem de_un {op : UnaryOp} {g : Dv → Sto → Re Dv} {a : Expr} {fa : Ex} (ho : UnD γ X W (unaryOp op) g) (ha : DE γ X W a fa) : DE γ X W (.UnaryOp op a pos) (e1 g fa) := by
  refine ⟨fun pins s σ H Q I ⟨Φ, ρ, F, θ, S, ea, hh, p⟩ => UnaryOp_ (thn (ha.run pins s σ H (fun x H' => ∃ F θ S d, Rep ⟨X.K, γ⟩ F θ x d ∧ HA ⟨X.K, γ⟩ Φ F θ S H' ∧ PostG ⟨X.K, γ⟩ Φ W σ F θ (Rep ⟨X.K, γ⟩) (g d S) Q) I ?_) ?_)⟩
  · exact ⟨Φ, ρ, F, θ, S, ea, hh, PostG.seq p fun d S' x F' θ' H' _ e h' r p' => ⟨F', θ', S', d, r, h', p'⟩⟩
  · rintro v s1 ⟨x, H1, I1, r1, F', θ', S', d, r, h', p'⟩
    exact ho pins s1 σ H1 x v Q Φ F' θ' S' d I1 r1 r h' p'

/-! ### tests -/
def tV (f : Ex) : Tt := fun ρ S => (f ρ S).bind fun d S' => match d with
  | .bl b => .ok b S'
  | _ => .bad
theorem rep_bl {M : Ev} {F : Hp} {θ : List Addr} {x : V} {b : Bool} (r : Rep M F θ x (.bl b)) : x = .bl b := by cases r; rfl
theorem rep_int {M : Ev} {F : Hp} {θ : List Addr} {x : V} {b : Int} (r : Rep M F θ x (.int b)) : x = .int b := by cases r; rfl
theorem rep_str {M : Ev} {F : Hp} {θ : List Addr} {x : V} {b : Str} (r : Rep M F θ x (.str b)) : x = .str b := by cases r; rfl
theorem rep_non {M : Ev} {F : Hp} {θ : List Addr} {x : V} (r : Rep M F θ x .non) : x = .non := by cases r; rfl
theorem tV_post {M : Ev} {Φ : Hp} {σ : L2.St} {F : Hp} {θ : List Addr} {r : Re Dv} {Q : Bool → Hp → Prop}
    (p : PostG M Φ W σ F θ (fun _ _ (b a : Bool) => b = a) (r.bind fun d S' => match d with | .bl b => Re.ok b S' | _ => Re.bad) Q) : PostG M Φ W σ F θ (Rep M) r (fun x H' => ∃ c, x = .bl c ∧ Q c H') := by
  refine PostG.seq p fun d S' x F' θ' H' _ e h' r p' => ?_
  cases d with
  | bl b => exact ⟨b, rep_bl r, PostG.ok p' h' rfl⟩
  | _ => exact p'.elim
theorem dt_val {e : Expr} {f : Ex} (h : DE γ X W e f) (he : ∀ whole, isTrue e X.env whole = (do let v ← whole; standAt e.pos; holding [v] (truthy v)) := by intro _; rfl) : DTt γ X W e (tV f) :=
  PT.weak (pt_val h he) fun σ H Q ⟨Φ, ρ, F, θ, S, ea, ha, p⟩ => ⟨Φ, ρ, F, θ, S, ea, ha, tV_post p⟩
theorem dt_cmp {op : CmpOp} {g : Dv → Dv → Sto → Re Dv} {a b : Expr} {fa fb : Ex} (ho : OpD γ X W (compareOp op) g) (ha : DE γ X W a fa) (hb : DE γ X W b fb) (hm : behindInMarks op b = false := by first | exact nobehind _ (by decide) (by decide) | rfl) :
    DTt γ X W (.Compare a [op] [b] pos) (tV (e2 g fa fb)) := by
  refine ⟨fun pins s σ H Q I ⟨Φ, ρ, F, θ, S, ea, hh, p⟩ => ?_⟩
  refine wpAny_isTrue_Compare1 (thn (de_bin ha hb I (Q := fun x H' => ∃ c, x = .bl c ∧ Q c H') ⟨Φ, ρ, F, θ, S, ea, hh, tV_post p⟩ ho) fun v s1 h1 => thn h1 fun u s2 h2 => thn h2 fun c s3 ⟨x, H1, I1, r1, q1⟩ => ?_) hm
  obtain ⟨d, rfl, q⟩ := q1
  cases r1
  exact wpAny_truthy_bool ⟨H1, I1, q⟩
def tAndD (a b : Tt) : Tt := fun ρ S => (a ρ S).bind fun c S' => if c = true then b ρ S' else .ok false S'
def tOrD (a b : Tt) : Tt := fun ρ S => (a ρ S).bind fun c S' => if c = true then .ok true S' else b ρ S'
def tNotD (a : Tt) : Tt := fun ρ S => (a ρ S).bind fun c S' => .ok (!c) S'
section
variable {a b : Expr} {rest : List Expr} {ta tb : Tt}
theorem dw_and1 (ha : DTt γ X W a ta) : DW γ X W (.BoolOp .And [a] pos) ta := pw_and1 ha
theorem dw_or1 (ha : DTt γ X W a ta) : DW γ X W (.BoolOp .Or [a] pos) ta := pw_or1 ha
theorem dw_and (ha : DTt γ X W a ta) (hb : DW γ X W (.BoolOp .And (b :: rest) pos) tb) : DW γ X W (.BoolOp .And (a :: b :: rest) pos) (tAndD ta tb) :=
  PW.weak (pw_and ha hb) fun σ H Q ⟨Φ, ρ, F, θ, S, ea, hh, p⟩ => ⟨Φ, ρ, F, θ, S, ea, hh, PostG.seq p fun c S' b F' θ' H' _ e h' r p' => by
    cases r
    cases c with
    | true => exact ⟨Φ, ρ, F', θ', S', ea.ext e, h', p'⟩
    | false => exact PostG.ok p' h' rfl⟩
theorem dw_or (ha : DTt γ X W a ta) (hb : DW γ X W (.BoolOp .Or (b :: rest) pos) tb) : DW γ X W (.BoolOp .Or (a :: b :: rest) pos) (tOrD ta tb) :=
  PW.weak (pw_or ha hb) fun σ H Q ⟨Φ, ρ, F, θ, S, ea, hh, p⟩ => ⟨Φ, ρ, F, θ, S, ea, hh, PostG.seq p fun c S' b F' θ' H' _ e h' r p' => by
    cases r
    cases c with
    | false => exact ⟨Φ, ρ, F', θ', S', ea.ext e, h', p'⟩
    | true => exact PostG.ok p' h' rfl⟩
theorem dw_t (h : DW γ X W a ta) : DTt γ X W a ta := PW.pt h
theorem dt_not (ha : DTt γ X W a ta) : DTt γ X W (.UnaryOp .Not a pos) (tNotD ta) :=
  PT.weak (pt_not ha) fun σ H Q ⟨Φ, ρ, F, θ, S, ea, hh, p⟩ => ⟨Φ, ρ, F, θ, S, ea, hh, PostG.seq p fun c S' b F' θ' H' _ e h' r p' => by
    cases r
    exact PostG.ok p' h' rfl⟩
end
/-- a test as a value -/
def eT (t : Tt) : Ex := fun ρ S => (t ρ S).bind fun c S' => .ok (.bl c) S'
def eIf (t : Tt) (a b : Ex) : Ex := fun ρ S => (t ρ S).bind fun c S' => if c = true then a ρ S' else b ρ S'
def eAnd (a b : Ex) : Ex := fun ρ S => (a ρ S).bind fun x S' => match x with
  | .bl true => b ρ S'
  | .bl false => .ok (.bl false) S'
  | _ => .bad
def eOr (a b : Ex) : Ex := fun ρ S => (a ρ S).bind fun x S' => match x with
  | .bl false => b ρ S'
  | .bl true => .ok (.bl true) S'
  | _ => .bad
def uNot : Dv → Sto → Re Dv
  | .bl b, S => .ok (.bl (!b)) S
  | _, _ => .bad
section
variable {a b : Expr} {rest : List Expr} {fa fb : Ex}
theorem de_if {t : Expr} {tt : Tt} (ht : DTt γ X W t tt) (ha : DE γ X W a fa) (hb : DE γ X W b fb) : DE γ X W (.IfExp t a b pos) (eIf tt fa fb) :=
  PE.weak (pe_ifExp ht ha hb) fun σ H Q ⟨Φ, ρ, F, θ, S, ea, hh, p⟩ => ⟨Φ, ρ, F, θ, S, ea, hh, PostG.seq p fun c S' b F' θ' H' _ e h' r p' => by
    cases r
    cases c with
    | true => exact ⟨Φ, ρ, F', θ', S', ea.ext e, h', p'⟩
    | false => exact ⟨Φ, ρ, F', θ', S', ea.ext e, h', p'⟩⟩
theorem de_one {op : BoolOp} (h : DE γ X W a fa) : DE γ X W (.BoolOp op [a] pos) fa := pe_one h
theorem de_and (ha : DE γ X W a fa) (hb : DE γ X W (.BoolOp .And (b :: rest) pos) fb) : DE γ X W (.BoolOp .And (a :: b :: rest) pos) (eAnd fa fb) :=
  PE.weak (pe_and ha hb) fun σ H Q ⟨Φ, ρ, F, θ, S, ea, hh, p⟩ => ⟨Φ, ρ, F, θ, S, ea, hh, PostG.seq p fun c S' x F' θ' H' _ e h' r p' => by
    cases c with
    | bl v =>
      refine ⟨v, rep_bl r, ?_⟩
      cases v with
      | true => exact ⟨Φ, ρ, F', θ', S', ea.ext e, h', p'⟩
      | false => exact PostG.ok p' h' (.bl _)
    | _ => exact p'.elim⟩
theorem de_or (ha : DE γ X W a fa) (hb : DE γ X W (.BoolOp .Or (b :: rest) pos) fb) : DE γ X W (.BoolOp .Or (a :: b :: rest) pos) (eOr fa fb) :=
  PE.weak (pe_or ha hb) fun σ H Q ⟨Φ, ρ, F, θ, S, ea, hh, p⟩ => ⟨Φ, ρ, F, θ, S, ea, hh, PostG.seq p fun c S' x F' θ' H' _ e h' r p' => by
    cases c with
    | bl v =>
      refine ⟨v, rep_bl r, ?_⟩
      cases v with
      | false => exact ⟨Φ, ρ, F', θ', S', ea.ext e, h', p'⟩
      | true => exact PostG.ok p' h' (.bl _)
    | _ => exact p'.elim⟩
theorem de_not (ha : DE γ X W a fa) : DE γ X W (.UnaryOp .Not a pos) (e1 uNot fa) :=
  PE.weak (pe_not ha) fun σ H Q ⟨Φ, ρ, F, θ, S, ea, hh, p⟩ => ⟨Φ, ρ, F, θ, S, ea, hh, PostG.seq p fun c S' x F' θ' H' _ e h' r p' => by
    cases c with
    | bl v => exact ⟨v, rep_bl r, PostG.ok p' h' (.bl _)⟩
    | _ => exact p'.elim⟩
end

/-! ### argument lists, displays -/
def aNil : Xs := fun _ S => .ok [] S
def aCons (a : Ex) (r : Xs) : Xs := fun ρ S => (a ρ S).bind fun x S1 => (r ρ S1).bind fun xs S2 => .ok (x :: xs) S2
theorem da_nil : DAs γ X W [] aNil := PA.weak pa_nil fun σ H Q ⟨Φ, ρ, F, θ, S, ea, hh, p⟩ => PostG.ok p hh .nil
theorem da_cons {e : Expr} {es : List Expr} {fa : Ex} {fr : Xs} (ha : DE γ X W e fa) (hr : DAs γ X W es fr) (hs : starEach (e :: es) X.env = (false, eval e X.env) :: starEach es X.env := by rfl) : DAs γ X W (e :: es) (aCons fa fr) :=
  PA.weak (pa_cons ha hr hs) fun σ H Q ⟨Φ, ρ, F, θ, S, ea, hh, p⟩ => ⟨Φ, ρ, F, θ, S, ea, hh, PostG.seq p fun d S' x F' θ' H' _ e h' r p' =>
    ⟨Φ, ρ, F', θ', S', ea.ext e, h', PostG.seq p' fun ds S2 xs F2 θ2 H2 _ e2 h2 r2 p2 => PostG.ok p2 h2 (.cons (r.ext e2) r2)⟩⟩
/-- a new tuple, a new frozen list, a new list in a cell -/
def mkT (ds : List Dv) (S : Sto) : Re Dv := if ds.length ≤ sizeLine then .ok (.tup ds) S else .bad
def mkL (ds : List Dv) (S : Sto) : Re Dv := if ds.length ≤ sizeLine then .ok (.lst ds) S else .bad
def mkC (ds : List Dv) (S : Sto) : Re Dv := if ds.length ≤ sizeLine then .ok (.cell S.length) (S ++ [.lst ds]) else .bad
def eN (g : List Dv → Sto → Re Dv) (a : Xs) : Ex := fun ρ S => (a ρ S).bind fun xs S1 => g xs S1
theorem post_if {α β : Type} {M : Ev} {Φ : Hp} {σ : L2.St} {F : Hp} {θ : List Addr} {R : Hp → List Addr → β → α → Prop} {c : Prop} [Decidable c] {r : Re α} {Q : β → Hp → Prop} (p : PostG M Φ W σ F θ R (if c then r else .bad) Q) : c ∧ PostG M Φ W σ F θ R r Q := by
  by_cases h : c
  · rw [if_pos h] at p; exact ⟨h, p⟩
  · rw [if_neg h] at p; exact p.elim
section
variable {M : Ev} {Φ : Hp} {σ : L2.St} {F : Hp} {θ : List Addr} {S : Sto} {H : Hp} {Q : VK} {xs : List V} {ds : List Dv}
theorem newT (hh : HA M Φ F θ S H) (r : Reps M F θ xs ds) (p : PostG M Φ W σ F θ (Rep M) (mkT ds S) Q) : xs.length ≤ sizeLine ∧ ∀ a, H a = none → Q (.ref a) (upd H a (.tup xs)) := by
  obtain ⟨h, p⟩ := post_if p
  refine ⟨by rw [r.length]; exact h, fun a ha => ?_⟩
  obtain ⟨e, h'⟩ := hh.alloc (.tup xs) ha
  exact p _ _ _ _ e h' (.tup upd_same (r.ext e))
theorem newL (hh : HA M Φ F θ S H) (r : Reps M F θ xs ds) (p : PostG M Φ W σ F θ (Rep M) (mkL ds S) Q) : xs.length ≤ sizeLine ∧ ∀ a, H a = none → Q (.ref a) (upd H a (.lst xs)) := by
  obtain ⟨h, p⟩ := post_if p
  refine ⟨by rw [r.length]; exact h, fun a ha => ?_⟩
  obtain ⟨e, h'⟩ := hh.alloc (.lst xs) ha
  exact p _ _ _ _ e h' (.lst upd_same (r.ext e))
theorem newC (hh : HA M Φ F θ S H) (r : Reps M F θ xs ds) (p : PostG M Φ W σ F θ (Rep M) (mkC ds S) Q) : xs.length ≤ sizeLine ∧ ∀ a, H a = none → Q (.ref a) (upd H a (.lst xs)) := by
  obtain ⟨h, p⟩ := post_if p
  refine ⟨by rw [r.length]; exact h, fun a ha => ?_⟩
  obtain ⟨e, h'⟩ := hh.newCell (o := .lst xs) (ob := .lst ds) ha r
  refine p _ _ _ _ e h' (.cell ?_)
  rw [← hh.len, List.getElem?_append_right (Nat.le_refl _), Nat.sub_self]
  rfl
end
theorem de_tup {es : List Expr} {fa : Xs} {k1 : Nat} (h : DAs γ X W es fa) : DE γ X W (.Tuple es k1 pos) (eN mkT fa) :=
  PE.weak (pe_tup h) fun σ H Q ⟨Φ, ρ, F, θ, S, ea, hh, p⟩ => ⟨Φ, ρ, F, θ, S, ea, hh, PostG.seq p fun ds S' xs F' θ' H' _ e h' r p' => newT h' r p'⟩
theorem de_lst {es : List Expr} {fa : Xs} (h : DAs γ X W es fa) : DE γ X W (.List es pos) (eN mkL fa) :=
  PE.weak (pe_lst h) fun σ H Q ⟨Φ, ρ, F, θ, S, ea, hh, p⟩ => ⟨Φ, ρ, F, θ, S, ea, hh, PostG.seq p fun ds S' xs F' θ' H' _ e h' r p' => newL h' r p'⟩
theorem de_cell {es : List Expr} {fa : Xs} (h : DAs γ X W es fa) : DE γ X W (.List es pos) (eN mkC fa) :=
  PE.weak (pe_lst h) fun σ H Q ⟨Φ, ρ, F, θ, S, ea, hh, p⟩ => ⟨Φ, ρ, F, θ, S, ea, hh, PostG.seq p fun ds S' xs F' θ' H' _ e h' r p' => newC h' r p'⟩
end
end DL

/-! The D layer, 3: statements, loops, defs, calls. -/
namespace DL
open PySem PySem.Spec PyProof.Rows L2

inductive SRe where
  | nx (ρ : En) (S : Sto) | ret (d : Dv) (S : Sto) | brk (ρ : En) (S : Sto) | ct (ρ : En) (S : Sto) | exc (c : Nat) (d : Dv) (ρ : En) (S : Sto) | bad
abbrev Sm := En → Sto → SRe
def Re.toS {α : Type} (r : Re α) (ρ : En) (k : α → Sto → SRe) : SRe := match r with
  | .ok a S => k a S
  | .exc c d S => .exc c d ρ S
  | .bad => .bad
@[simp] theorem Re.toS_ok {α : Type} (a : α) (S : Sto) (ρ : En) (k : α → Sto → SRe) : (Re.ok a S).toS ρ k = k a S := rfl
@[simp] theorem Re.toS_exc {α : Type} (c : Nat) (d : Dv) (S : Sto) (ρ : En) (k : α → Sto → SRe) : (Re.exc c d S : Re α).toS ρ k = .exc c d ρ S := rfl
@[simp] theorem Re.toS_bad {α : Type} (ρ : En) (k : α → Sto → SRe) : (Re.bad : Re α).toS ρ k = .bad := rfl
def PostS (M : Ev) (Φ : Hp) (W : WX) (F : Hp) (θ : List Addr) (r : SRe) (D : Ends) : Prop :=
  match r with
  | .nx ρ S => ∀ σ F' θ' H, Gr F F' θ θ' → EA M F' θ' σ ρ → HA M Φ F' θ' S H → D.nx σ H
  | .ret d S => ∀ v F' θ' H, Gr F F' θ θ' → HA M Φ F' θ' S H → Rep M F' θ' v d → D.rt v H
  | .brk ρ S => ∀ σ F' θ' H, Gr F F' θ θ' → EA M F' θ' σ ρ → HA M Φ F' θ' S H → D.bk σ H
  | .ct ρ S => ∀ σ F' θ' H, Gr F F' θ θ' → EA M F' θ' σ ρ → HA M Φ F' θ' S H → D.ct σ H
  | .exc c d ρ S => ∀ dd v σ F' θ' H, Gr F F' θ θ' → EA M F' θ' σ ρ → HA M Φ F' θ' S H → F' dd = some (.xd [("value", v)]) → Rep M F' θ' v d → W (.ref (M.γ c)) (some dd) σ H
  | .bad => False
section
variable {M : Ev} {Φ : Hp} {W : WX} {F F' : Hp} {θ θ' : List Addr} {D : Ends}
theorem PostS.ext {r : SRe} (e : Gr F F' θ θ') (h : PostS M Φ W F θ r D) : PostS M Φ W F' θ' r D := by
  cases r with
  | nx ρ S => exact fun σ F2 θ2 H g a b => h σ F2 θ2 H (e.trans g) a b
  | ret d S => exact fun v F2 θ2 H g a b => h v F2 θ2 H (e.trans g) a b
  | brk ρ S => exact fun σ F2 θ2 H g a b => h σ F2 θ2 H (e.trans g) a b
  | ct ρ S => exact fun σ F2 θ2 H g a b => h σ F2 θ2 H (e.trans g) a b
  | exc c d ρ S => exact fun dd v σ F2 θ2 H g a b c d => h dd v σ F2 θ2 H (e.trans g) a b c d
  | bad => exact h
/-- an expression's outcome within a statement -/
theorem PostS.seq {α β : Type} {σ : L2.St} {ρ : En} {R0 : Hp → List Addr → β → α → Prop} {r : Re α} {k : α → Sto → SRe} {Q' : β → Hp → Prop} (ea : EA M F θ σ ρ) (h : PostS M Φ W F θ (r.toS ρ k) D)
    (hk : ∀ a S' b F' θ' H', r = .ok a S' → Gr F F' θ θ' → HA M Φ F' θ' S' H' → R0 F' θ' b a → PostS M Φ W F' θ' (k a S') D → Q' b H') : PostG M Φ W σ F θ R0 r Q' := by
  cases r with
  | ok a S' => exact fun b F2 θ2 H2 e2 h2 r2 => hk a S' b F2 θ2 H2 rfl e2 h2 r2 (PostS.ext e2 h)
  | exc c d S' => exact fun dd v F2 θ2 H2 e2 h2 h3 r2 => h dd v σ F2 θ2 H2 e2 (ea.ext e2) h2 h3 r2
  | bad => exact h
/-- other ends for going on -/
theorem PostS.nx' {r : SRe} {D' : Ends} (h : PostS M Φ W F θ r D) (h1 : ∀ σ F' θ' H ρ S, r = .nx ρ S → Gr F F' θ θ' → EA M F' θ' σ ρ → HA M Φ F' θ' S H → D.nx σ H → D'.nx σ H) (h2 : ∀ v H, D.rt v H → D'.rt v H) (h3 : ∀ σ H, D.bk σ H → D'.bk σ H) (h4 : ∀ σ H, D.ct σ H → D'.ct σ H) : PostS M Φ W F θ r D' := by
  cases r with
  | nx ρ S => exact fun σ F2 θ2 H g a b => h1 σ F2 θ2 H ρ S rfl g a b (h σ F2 θ2 H g a b)
  | ret d S => exact fun v F2 θ2 H g a b => h2 _ _ (h v F2 θ2 H g a b)
  | brk ρ S => exact fun σ F2 θ2 H g a b => h3 _ _ (h σ F2 θ2 H g a b)
  | ct ρ S => exact fun σ F2 θ2 H g a b => h4 _ _ (h σ F2 θ2 H g a b)
  | exc c d ρ S => exact fun dd v σ F2 θ2 H g a b c d => h dd v σ F2 θ2 H g a b c d
  | bad => exact h
end
def dS (M : Ev) (W : WX) (f : Sm) : TS := fun D σ H => ∃ Φ ρ F θ S, EA M F θ σ ρ ∧ HA M Φ F θ S H ∧ PostS M Φ W F θ (f ρ S) D
abbrev DS (γ : Nat → Addr) (X : Cx) (W : WX) (st : Stmt) (f : Sm) : Prop := PS X st (dS ⟨X.K, γ⟩ W f)
abbrev DSs (γ : Nat → Addr) (X : Cx) (W : WX) (st : List Stmt) (f : Sm) : Prop := PSs X st (dS ⟨X.K, γ⟩ W f)

section
variable {γ : Nat → Addr} {X : Cx} {W : WX} {N : List Str} {sc : Scope} {k : Nat} {pos : Pos}
/-! ### blocks and small statements -/
def sNil : Sm := fun ρ S => .nx ρ S
def SRe.seq (r : SRe) (g : Sm) : SRe := match r with
  | .nx ρ S => g ρ S
  | r => r
@[simp] theorem SRe.seq_nx (ρ : En) (S : Sto) (g : Sm) : (SRe.nx ρ S).seq g = g ρ S := rfl
@[simp] theorem SRe.seq_ret (d : Dv) (S : Sto) (g : Sm) : (SRe.ret d S).seq g = .ret d S := rfl
@[simp] theorem SRe.seq_brk (ρ : En) (S : Sto) (g : Sm) : (SRe.brk ρ S).seq g = .brk ρ S := rfl
@[simp] theorem SRe.seq_ct (ρ : En) (S : Sto) (g : Sm) : (SRe.ct ρ S).seq g = .ct ρ S := rfl
@[simp] theorem SRe.seq_exc (c : Nat) (d : Dv) (ρ : En) (S : Sto) (g : Sm) : (SRe.exc c d ρ S).seq g = .exc c d ρ S := rfl
@[simp] theorem SRe.seq_bad (g : Sm) : SRe.bad.seq g = .bad := rfl
def sSeq (f g : Sm) : Sm := fun ρ S => (f ρ S).seq g
theorem dss_nil : DSs γ X W [] sNil := PSs.weak pss_nil fun D σ H ⟨Φ, ρ, F, θ, S, ea, hh, p⟩ => p σ F θ H .rfl ea hh
theorem dss_cons {st : Stmt} {rest : List Stmt} {f g : Sm} (h1 : DS γ X W st f) (h2 : DSs γ X W rest g) : DSs γ X W (st :: rest) (sSeq f g) :=
  PSs.weak (pss_cons h1 h2) fun D σ H ⟨Φ, ρ, F, θ, S, ea, hh, p⟩ => ⟨Φ, ρ, F, θ, S, ea, hh, by
    unfold sSeq at p
    revert p
    cases f ρ S with
    | nx ρ' S' => exact fun p σ' F' θ' H' e a b => ⟨Φ, ρ', F', θ', S', a, b, PostS.ext e p⟩
    | ret d S' => exact fun p => p
    | brk ρ' S' => exact fun p => p
    | ct ρ' S' => exact fun p => p
    | exc c d ρ' S' => exact fun p => p
    | bad => exact fun p => p⟩
theorem dss_one {st : Stmt} {f : Sm} (h1 : DS γ X W st f) : DSs γ X W [st] f := pss_one h1
def sBrk : Sm := fun ρ S => .brk ρ S
def sCt : Sm := fun ρ S => .ct ρ S
theorem ds_pass : DS γ X W (.Pass pos) sNil := PS.weak ps_pass fun D σ H ⟨Φ, ρ, F, θ, S, ea, hh, p⟩ => p σ F θ H .rfl ea hh
theorem ds_break : DS γ X W (.Break pos) sBrk := PS.weak ps_break fun D σ H ⟨Φ, ρ, F, θ, S, ea, hh, p⟩ => p σ F θ H .rfl ea hh
theorem ds_continue : DS γ X W (.Continue pos) sCt := PS.weak ps_continue fun D σ H ⟨Φ, ρ, F, θ, S, ea, hh, p⟩ => p σ F θ H .rfl ea hh
def sExpr (f : Ex) : Sm := fun ρ S => (f ρ S).toS ρ fun _ S' => .nx ρ S'
def sRet (f : Ex) : Sm := fun ρ S => (f ρ S).toS ρ fun d S' => .ret d S'
def sSet (i : Nat) (f : Ex) : Sm := fun ρ S => (f ρ S).toS ρ fun d S' => .nx (ρ.set i (some d)) S'
def sIf (t : Tt) (a b : Sm) : Sm := fun ρ S => (t ρ S).toS ρ fun c S' => if c = true then a ρ S' else b ρ S'
theorem ds_expr {e : Expr} {f : Ex} (h : DE γ X W e f) (hs : swapsWith e none pos.line X.env = pure false := by rfl) : DS γ X W (.Expr e pos) (sExpr f) :=
  PS.weak (ps_expr h hs) fun D σ H ⟨Φ, ρ, F, θ, S, ea, hh, p⟩ => ⟨Φ, ρ, F, θ, S, ea, hh, PostS.seq ea p fun d S' v F' θ' H' _ e h' r p' => p' σ F' θ' H' .rfl (ea.ext e) h'⟩
theorem ds_ret {e : Expr} {f : Ex} (h : DE γ X W e f) : DS γ X W (.Return (some e) pos) (sRet f) :=
  PS.weak (ps_ret h) fun D σ H ⟨Φ, ρ, F, θ, S, ea, hh, p⟩ => ⟨Φ, ρ, F, θ, S, ea, hh, PostS.seq ea p fun d S' v F' θ' H' _ e h' r p' => p' v F' θ' H' .rfl h' r⟩
theorem ds_retN : DS γ X W (.Return none pos) (sRet (eC .non)) :=
  PS.weak ps_retN fun D σ H ⟨Φ, ρ, F, θ, S, ea, hh, p⟩ => p .non F θ H .rfl hh .non
theorem ds_if {t : Expr} {tt : Tt} {a b : List Stmt} {fa fb : Sm} (ht : DTt γ X W t tt) (ha : DSs γ X W a fa) (hb : DSs γ X W b fb) : DS γ X W (.If t a b pos) (sIf tt fa fb) :=
  PS.weak (ps_if ht ha hb) fun D σ H ⟨Φ, ρ, F, θ, S, ea, hh, p⟩ => ⟨Φ, ρ, F, θ, S, ea, hh, PostS.seq ea p fun c S' v F' θ' H' _ e h' r p' => by
    cases r
    cases c with
    | true => exact ⟨Φ, ρ, F', θ', S', ea.ext e, h', p'⟩
    | false => exact ⟨Φ, ρ, F', θ', S', ea.ext e, h', p'⟩⟩
theorem ds_set (i : Nat) {x : Str} {e : Expr} {f : Ex} {pos' : Pos} (c : CtxD X W N sc k) (h : DE γ X W e f) (hi : N[i]? = some x := by rfl) (hx : Loc sc x := by first | exact Or.inl rfl | exact Or.inr rfl) (hs : swapsWith e (some (.Name x pos')) pos.line X.env = pure false := by rfl) :
    DS γ X W (.Assign [.Name x pos'] e pos) (sSet i f) :=
  PS.weak (ps_set (i := i) (by rw [c.hN]; exact c.nd) (by rw [c.hN]; exact hi) (by rw [c.hsc]; exact hx) h hs (.inl (c.fn x))) fun D σ H ⟨Φ, ρ, F, θ, S, ea, hh, p⟩ => ⟨Φ, ρ, F, θ, S, ea, hh, PostS.seq ea p fun d S' v F' θ' H' _ e h' r p' =>
    p' _ F' θ' H' .rfl ((ea.ext e).set i r) h'⟩

/-! ### targets -/
abbrev Gt := Dv → En → Sto → Option (En × Sto)
abbrev Gts := List Dv → En → Sto → Option (En × Sto)
def PostT (M : Ev) (Φ F : Hp) (θ : List Addr) (r : Option (En × Sto)) (Q : L2.St → Hp → Prop) : Prop := match r with
  | some (ρ, S) => ∀ σ F' θ' H, Gr F F' θ θ' → EA M F' θ' σ ρ → HA M Φ F' θ' S H → Q σ H
  | none => False
theorem PostT.ext {M : Ev} {Φ : Hp} {F F' : Hp} {θ θ' : List Addr} {r : Option (En × Sto)} {Q : L2.St → Hp → Prop} (e : Gr F F' θ θ') (h : PostT M Φ F θ r Q) : PostT M Φ F' θ' r Q := by
  cases r with
  | some x => exact fun σ F2 θ2 H g a b => h σ F2 θ2 H (e.trans g) a b
  | none => exact h
def dGt (M : Ev) (g : Gt) : TG := fun v σ H Q => ∃ Φ ρ F θ S d, EA M F θ σ ρ ∧ HA M Φ F θ S H ∧ Rep M F θ v d ∧ PostT M Φ F θ (g d ρ S) Q
def dGts (M : Ev) (g : Gts) : TGs := fun vs σ H Q => ∃ Φ ρ F θ S ds, EA M F θ σ ρ ∧ HA M Φ F θ S H ∧ Reps M F θ vs ds ∧ PostT M Φ F θ (g ds ρ S) Q
abbrev DG (γ : Nat → Addr) (X : Cx) (tg : Expr) (g : Gt) : Prop := PG X tg (dGt ⟨X.K, γ⟩ g)
abbrev DGs (γ : Nat → Addr) (X : Cx) (tgs : List Expr) (g : Gts) : Prop := PGs X tgs (dGts ⟨X.K, γ⟩ g)
theorem PG.weak {tg : Expr} {t u : TG} (h : PG X tg t) (k : ∀ v σ H Q, u v σ H Q → t v σ H Q) : PG X tg u := ⟨fun pins s σ H v x Q I r q => h.run pins s σ H v x Q I r (k v σ H Q q)⟩
theorem PGs.weak {tg : List Expr} {t u : TGs} (h : PGs X tg t) (k : ∀ v σ H Q, u v σ H Q → t v σ H Q) : PGs X tg u := ⟨fun pins s σ H v x Q I r q => h.run pins s σ H v x Q I r (k v σ H Q q)⟩
def gN (i : Nat) : Gt := fun d ρ S => some (ρ.set i (some d), S)
def gTp (n : Nat) (g : Gts) : Gt := fun d ρ S => match d with
  | .tup l => if l.length = n then g l ρ S else none
  | _ => none
def gsNil : Gts := fun l ρ S => match l with
  | [] => some (ρ, S)
  | _ => none
def gsCons (g : Gt) (r : Gts) : Gts := fun l ρ S => match l with
  | d :: l => match g d ρ S with
    | some (ρ', S') => r l ρ' S'
    | none => none
  | [] => none
theorem dg_name (i : Nat) {x : Str} (c : CtxD X W N sc k) (hi : N[i]? = some x := by rfl) (hx : Loc sc x := by first | exact Or.inl rfl | exact Or.inr rfl) : DG γ X (.Name x pos) (gN i) :=
  PG.weak (pg_name (i := i) (by rw [c.hN]; exact c.nd) (by rw [c.hN]; exact hi) (by rw [c.hsc]; exact hx) (.inl (c.fn x))) fun v σ H Q ⟨Φ, ρ, F, θ, S, d, ea, hh, r, p⟩ => p _ F θ H .rfl (ea.set i r) hh
theorem dgs_nil : DGs γ X [] gsNil := PGs.weak pgs_nil fun vs σ H Q ⟨Φ, ρ, F, θ, S, ds, ea, hh, r, p⟩ => by
  cases r with
  | nil => exact ⟨rfl, p _ F θ H .rfl ea hh⟩
  | cons _ _ => exact p.elim
theorem dgs_cons {e : Expr} {es : List Expr} {g : Gt} {gs : Gts} (h1 : DG γ X e g) (h2 : DGs γ X es gs) (hs : (assignEach (e :: es) X.env).map (·.2) = assign e X.env :: (assignEach es X.env).map (·.2) := by rfl) : DGs γ X (e :: es) (gsCons g gs) :=
  PGs.weak (pgs_cons h1 h2 hs) fun vs σ H Q ⟨Φ, ρ, F, θ, S, ds, ea, hh, r, p⟩ => by
    cases r with
    | nil => exact p.elim
    | @cons v d vs ds r1 r2 =>
      refine ⟨_, _, rfl, Φ, ρ, F, θ, S, _, ea, hh, r1, ?_⟩
      have p : PostT _ Φ F θ (match g d ρ S with | some (ρ', S') => gs ds ρ' S' | none => none) _ := p
      revert p
      cases g d ρ S with
      | some x => exact fun p σ' F' θ' H' e a b => ⟨Φ, x.1, F', θ', x.2, ds, a, b, r2.ext e, PostT.ext e p⟩
      | none => exact fun p => p
theorem dg_tup (n : Nat) {es : List Expr} {k1 : Nat} {g : Gts} (c : CtxD X W N sc k) (h : DGs γ X es g) (hn : (assignEach es X.env).length = n := by rfl) (hst : (assignEach es X.env).findIdx? (·.1) = none := by rfl) : DG γ X (.Tuple es k1 pos) (gTp n g) :=
  PG.weak (pg_tup c.calm h hn hst) fun v σ H Q ⟨Φ, ρ, F, θ, S, d, ea, hh, r, p⟩ => by
    cases r with
    | @tup a xs ds h1 h2 =>
      have p : PostT _ Φ F θ (if ds.length = n then g ds ρ S else none) Q := p
      by_cases hl : ds.length = n
      · rw [if_pos hl] at p
        exact ⟨_, _, rfl, .inl (.inl (hh.sub _ _ h1)), by rw [h2.length]; exact hl, Φ, ρ, F, θ, S, _, ea, hh, h2, p⟩
      · rw [if_neg hl] at p; exact p.elim
    | _ => exact p.elim
theorem postS_if {M : Ev} {Φ : Hp} {F : Hp} {θ : List Addr} {c : Prop} [Decidable c] {r : SRe} {D : Ends} (p : PostS M Φ W F θ (if c then r else .bad) D) : c ∧ PostS M Φ W F θ r D := by
  by_cases h : c
  · rw [if_pos h] at p; exact ⟨h, p⟩
  · rw [if_neg h] at p; exact p.elim
def optS : Option (En × Sto) → Sm → SRe
  | some (ρ, S), k => k ρ S
  | none, _ => .bad
@[simp] theorem optS_some (ρ : En) (S : Sto) (k : Sm) : optS (some (ρ, S)) k = k ρ S := rfl
@[simp] theorem optS_none (k : Sm) : optS none k = .bad := rfl
theorem PostS.opt {M : Ev} {Φ : Hp} {F : Hp} {θ : List Addr} {r : Option (En × Sto)} {f : Sm} {D : Ends} {Q : L2.St → Hp → Prop} (p : PostS M Φ W F θ (optS r f) D) (hk : ∀ ρ S σ F' θ' H, r = some (ρ, S) → Gr F F' θ θ' → EA M F' θ' σ ρ → HA M Φ F' θ' S H → PostS M Φ W F' θ' (f ρ S) D → Q σ H) : PostT M Φ F θ r Q := by
  cases r with
  | some x => exact fun σ F2 θ2 H g a b => hk x.1 x.2 σ F2 θ2 H rfl g a b (PostS.ext g p)
  | none => exact p
def sAsg (f : Ex) (g : Gt) : Sm := fun ρ S => (f ρ S).toS ρ fun d S' => optS (g d ρ S') fun ρ' S2 => .nx ρ' S2
theorem ds_asg {tg e : Expr} {f : Ex} {g : Gt} (h : DE γ X W e f) (hg : DG γ X tg g) (hs : swapsWithSole [tg] e pos.line X.env = pure false := by rfl) (hw : swappedStores [tg] e X.env = pure none := by rfl)
    (h1 : (assignEach [tg] X.env).map (·.2) = [assign tg X.env] := by rfl) : DS γ X W (.Assign [tg] e pos) (sAsg f g) :=
  PS.weak (ps_asg h hg hs hw h1) fun D σ H ⟨Φ, ρ, F, θ, S, ea, hh, p⟩ => ⟨Φ, ρ, F, θ, S, ea, hh, PostS.seq ea p fun d S' v F' θ' H' _ e h' r p' =>
    ⟨Φ, ρ, F', θ', S', d, ea.ext e, h', r, PostS.opt p' fun ρ2 S2 σ2 F2 θ2 H2 _ e2 a b p2 => p2 σ2 F2 θ2 H2 .rfl a b⟩⟩
/-- a, b = x, y of plain local names -/
def sPar (i j : Nat) (f : Xs) : Sm := fun ρ S => (f ρ S).toS ρ fun l S' => match l with
  | [d, e] => .nx ((ρ.set i (some d)).set j (some e)) S'
  | _ => .bad
theorem reps2 {M : Ev} {F : Hp} {θ : List Addr} {vs : List V} {d e : Dv} (r : Reps M F θ vs [d, e]) : ∃ v w, vs = [v, w] ∧ Rep M F θ v d ∧ Rep M F θ w e := by
  cases r with
  | cons r1 r2 =>
    cases r2 with
    | cons r2 r3 =>
      cases r3
      exact ⟨_, _, rfl, r1, r2⟩
theorem reps1 {M : Ev} {F : Hp} {θ : List Addr} {vs : List V} {d : Dv} (r : Reps M F θ vs [d]) : ∃ v, vs = [v] ∧ Rep M F θ v d := by
  cases r with
  | cons r1 r2 =>
    cases r2
    exact ⟨_, rfl, r1⟩
theorem ds_par (i j : Nat) {x y : Str} {a b : Expr} {f : Xs} {px py pt : Pos} {kt k2 : Nat} {pt2 : Pos} (c : CtxD X W N sc k) (h : DAs γ X W [a, b] f) (hi : N[i]? = some x := by rfl) (hj : N[j]? = some y := by rfl) (hij : i ≠ j := by decide)
    (hx : sc.names.lookup x = some .local := by rfl) (hy : sc.names.lookup y = some .local := by rfl)
    (hw : swappedStores [.Tuple [.Name x px, .Name y py] kt pt] (.Tuple [a, b] k2 pt2) X.env = pure (some [x, y]))
    (hs : swapsWithSole [.Tuple [.Name x px, .Name y py] kt pt] (.Tuple [a, b] k2 pt2) pos.line X.env = pure false := by rfl) :
    DS γ X W (.Assign [.Tuple [.Name x px, .Name y py] kt pt] (.Tuple [a, b] k2 pt2) pos) (sPar i j f) :=
  PS.weak (ps_par (i := i) (j := j) c.calm (by rw [c.hN]; exact c.nd) (by rw [c.hN]; exact hi) (by rw [c.hN]; exact hj) hij (by rw [c.hsc]; exact hx) (by rw [c.hsc]; exact hy) h hw hs) fun D σ H ⟨Φ, ρ, F, θ, S, ea, hh, p⟩ => ⟨Φ, ρ, F, θ, S, ea, hh, PostS.seq ea p fun l S' vs F' θ' H' _ e h' r p' => by
    match l, r, p' with
    | [d, d2], r, p' =>
      obtain ⟨v, w, rfl, r1, r2⟩ := reps2 r
      exact ⟨v, w, rfl, p' _ F' θ' H' .rfl (((ea.ext e).set i r1).set j r2) h'⟩
    | [], r, p' => exact p'.elim
    | [_], r, p' => exact p'.elim
    | _ :: _ :: _ :: _, r, p' => exact p'.elim⟩

/-! ### while -/
def whileN (t : Tt) (b : Sm) : Nat → Sm
  | 0, _, _ => .bad
  | n + 1, ρ, S => (t ρ S).toS ρ fun c S' => if c = true then (match b ρ S' with
    | .nx ρ' S2 => whileN t b n ρ' S2
    | .ct ρ' S2 => whileN t b n ρ' S2
    | .brk ρ' S2 => .nx ρ' S2
    | r => r) else .nx ρ S'
open Classical in
noncomputable def sWhile (t : Tt) (b : Sm) : Sm := fun ρ S => if h : ∃ n, whileN t b n ρ S ≠ .bad then whileN t b (choose h) ρ S else .bad
theorem whileN_more {t : Tt} {b : Sm} : ∀ (n : Nat) (ρ : En) (S : Sto), whileN t b n ρ S ≠ .bad → ∀ m, whileN t b (n + m) ρ S = whileN t b n ρ S
  | 0, _, _, h, _ => absurd rfl h
  | n + 1, ρ, S, h, m => by
    rw [show n + 1 + m = (n + m) + 1 by omega]
    unfold whileN at h ⊢
    cases e : t ρ S with
    | bad => rfl
    | exc c d S' => rfl
    | ok c S' =>
      rw [e] at h
      simp only [Re.toS_ok] at h ⊢
      cases c with
      | false => rfl
      | true =>
        simp only [if_true] at h ⊢
        cases e2 : b ρ S' with
        | nx ρ' S2 => rw [e2] at h; exact whileN_more n ρ' S2 h m
        | ct ρ' S2 => rw [e2] at h; exact whileN_more n ρ' S2 h m
        | _ => rfl
theorem sWhile_of {t : Tt} {b : Sm} {ρ : En} {S : Sto} {r : SRe} (n : Nat) (h : whileN t b n ρ S = r) (hr : r ≠ .bad) : sWhile t b ρ S = r := by
  have ex : ∃ n, whileN t b n ρ S ≠ .bad := ⟨n, by rw [h]; exact hr⟩
  unfold sWhile
  rw [dif_pos ex]
  have h1 := Classical.choose_spec ex
  have e1 := whileN_more _ ρ S h1 n
  have e2 := whileN_more n ρ S (by rw [h]; exact hr) (Classical.choose ex)
  rw [Nat.add_comm] at e1
  rw [← e1, e2, h]
theorem ds_while {t : Expr} {body : List Stmt} {tt : Tt} {fb : Sm} (c : CtxD X W N sc k) (ht : DTt γ X W t tt) (hb : DSs γ X W body fb) : DS γ X W (.While t body [] pos) (sWhile tt fb) :=
  PS.weak (ps_while c.pw ht hb) fun D σ H ⟨Φ, ρ, F, θ, S, ea, hh, p⟩ => by
    unfold sWhile at p
    split at p
    · rename_i ex
      refine ⟨fun m σ H => ∃ Φ ρ F θ S, EA ⟨X.K, γ⟩ F θ σ ρ ∧ HA ⟨X.K, γ⟩ Φ F θ S H ∧ PostS ⟨X.K, γ⟩ Φ W F θ (whileN tt fb m ρ S) D, ⟨_, Φ, ρ, F, θ, S, ea, hh, p⟩, ?_⟩
      rintro m σ H ⟨Φ, ρ, F, θ, S, ea, hh, p⟩
      cases m with
      | zero => exact p.elim
      | succ m =>
        unfold whileN at p
        refine ⟨Φ, ρ, F, θ, S, ea, hh, PostS.seq ea p fun c S' v F' θ' H' _ e h' r p' => ?_⟩
        cases r
        cases c with
        | false => exact p' σ F' θ' H' .rfl (ea.ext e) h'
        | true =>
          simp only [if_true] at p' ⊢
          refine ⟨fun σ' H' => ∃ Φ ρ F θ S, EA ⟨X.K, γ⟩ F θ σ' ρ ∧ HA ⟨X.K, γ⟩ Φ F θ S H' ∧ PostS ⟨X.K, γ⟩ Φ W F θ (whileN tt fb m ρ S) D, fun σ' H' q => ⟨m, Nat.lt_succ_self m, q⟩, Φ, ρ, F', θ', S', ea.ext e, h', ?_⟩
          revert p'
          cases fb ρ S' with
          | nx ρ' S2 => exact fun p σ2 F2 θ2 H2 e2 a b => ⟨Φ, ρ', F2, θ2, S2, a, b, PostS.ext e2 p⟩
          | ct ρ' S2 => exact fun p σ2 F2 θ2 H2 e2 a b => ⟨Φ, ρ', F2, θ2, S2, a, b, PostS.ext e2 p⟩
          | brk ρ' S2 => exact fun p => p
          | ret d S2 => exact fun p => p
          | exc c d ρ' S2 => exact fun p => p
          | bad => exact fun p => p
    · exact p.elim

/-! ### for -/
/-- what is walked: the items, and what must stay so of the store meanwhile -/
abbrev Wk := List Dv × (Sto → Prop)
def Walks (M : Ev) (F : Hp) (θ : List Addr) (J : It) (x : Wk) : Prop := ∀ (i : Nat) Φ F' θ' S' H, Gr F F' θ θ' → HA M Φ F' θ' S' H → x.2 S' →
  (x.1.length ≤ i → J.stop i H) ∧ ∀ d, x.1[i]? = some d → J.go i H ∧ ∀ v H', J.yld i H v H' → ∃ F'', Gr F' F'' θ' θ' ∧ HA M Φ F'' θ' S' H' ∧ Rep M F'' θ' v d
abbrev It' := En → Sto → Re Wk
abbrev DI (γ : Nat → Addr) (X : Cx) (W : WX) (tg iter : Expr) (f : It') : Prop := PI X tg iter (dG ⟨X.K, γ⟩ W (Walks ⟨X.K, γ⟩) f)
theorem PI.weak {tg iter : Expr} {t u : TI} (h : PI X tg iter t) (k : ∀ σ H R, u σ H R → t σ H R) : PI X tg iter u := ⟨fun pins s σ H R I q => h.run pins s σ H R I (k σ H R q)⟩
open Classical in
noncomputable def forL (b : Dv → Sm) (chk : Sto → Prop) : List Dv → Sm
  | [], ρ, S => .nx ρ S
  | d :: r, ρ, S => match b d ρ S with
    | .nx ρ' S' => if chk S' then forL b chk r ρ' S' else .bad
    | .ct ρ' S' => if chk S' then forL b chk r ρ' S' else .bad
    | .brk ρ' S' => .nx ρ' S'
    | r => r
open Classical in
noncomputable def sFor (f : It') (g : Gt) (b : Sm) : Sm := fun ρ S => (f ρ S).toS ρ fun x S' => if x.2 S' then forL (fun d ρ S => optS (g d ρ S) b) x.2 x.1 ρ S' else .bad
open Classical in
theorem ds_for {tg iter : Expr} {body : List Stmt} {f : It'} {g : Gt} {fb : Sm} (c : CtxD X W N sc k) (hi : DI γ X W tg iter f) (hg : DG γ X tg g) (hb : DSs γ X W body fb) (hs : ∀ x, foldedSetIterable iter X.env x = pure x := by intro _; rfl) :
    DS γ X W (.For tg iter body [] pos) (sFor f g fb) :=
  PS.weak (ps_for c.pw c.calm hi hg hb hs) fun D σ H ⟨Φ, ρ, F, θ, S, ea, hh, p⟩ => ⟨Φ, ρ, F, θ, S, ea, hh, PostS.seq ea p fun x S' J F' θ' H' _ e h' r p' => by
    obtain ⟨h1, p'⟩ := postS_if p'
    refine ⟨fun i m σ H => m = x.1.length - i ∧ ∃ ρ F2 θ2 S2, Gr F' F2 θ' θ2 ∧ EA ⟨X.K, γ⟩ F2 θ2 σ ρ ∧ HA ⟨X.K, γ⟩ Φ F2 θ2 S2 H ∧ x.2 S2 ∧ PostS ⟨X.K, γ⟩ Φ W F2 θ2 (forL (fun d ρ S => optS (g d ρ S) fb) x.2 (x.1.drop i) ρ S2) D,
      ⟨x.1.length, by simp, ρ, F', θ', S', .rfl, ea.ext e, h', h1, p'⟩, ?_⟩
    rintro i m σ H ⟨rfl, ρ, F2, θ2, S2, e2, ea, hh, hc, p⟩
    obtain ⟨wa, wb⟩ := r i Φ F2 θ2 S2 H e2 hh hc
    by_cases hlt : i < x.1.length
    · obtain ⟨go, yl⟩ := wb x.1[i] (by simp [hlt])
      rw [List.drop_eq_getElem_cons hlt] at p
      refine .inr ⟨go, fun σ H => ∃ ρ F2 θ2 S2, Gr F' F2 θ' θ2 ∧ EA ⟨X.K, γ⟩ F2 θ2 σ ρ ∧ HA ⟨X.K, γ⟩ Φ F2 θ2 S2 H ∧ x.2 S2 ∧ PostS ⟨X.K, γ⟩ Φ W F2 θ2 (forL (fun d ρ S => optS (g d ρ S) fb) x.2 (x.1.drop (i + 1)) ρ S2) D, fun σ' H' q => ⟨x.1.length - (i + 1), by omega, rfl, q⟩, fun v H3 y => ?_⟩
      obtain ⟨F3, e3, h3, r3⟩ := yl v H3 y
      refine ⟨Φ, ρ, F3, θ2, S2, _, ea.ext e3, h3, r3, ?_⟩
      have p : PostS ⟨X.K, γ⟩ Φ W F2 θ2 (forL _ x.2 (x.1[i] :: x.1.drop (i + 1)) ρ S2) D := p
      unfold forL at p
      have p := PostS.ext e3 p
      revert p
      show PostS _ Φ W F3 θ2 (match optS (g x.1[i] ρ S2) fb with | .nx ρ' S' => if x.2 S' then forL _ x.2 _ ρ' S' else .bad | .ct ρ' S' => if x.2 S' then forL _ x.2 _ ρ' S' else .bad | .brk ρ' S' => .nx ρ' S' | r => r) D → _
      cases g x.1[i] ρ S2 with
      | some y =>
        intro p σ4 F4 θ4 H4 e4 a b
        refine ⟨Φ, y.1, F4, θ4, y.2, a, b, ?_⟩
        have p := PostS.ext e4 p
        revert p
        simp only [optS]
        cases fb y.1 y.2 with
        | nx ρ5 S5 =>
          intro p σ5 F5 θ5 H5 e5 a5 b5
          obtain ⟨hc5, p⟩ := postS_if p
          exact ⟨ρ5, F5, θ5, S5, ((e2.trans e3).trans e4).trans e5, a5, b5, hc5, PostS.ext e5 p⟩
        | ct ρ5 S5 =>
          intro p σ5 F5 θ5 H5 e5 a5 b5
          obtain ⟨hc5, p⟩ := postS_if p
          exact ⟨ρ5, F5, θ5, S5, ((e2.trans e3).trans e4).trans e5, a5, b5, hc5, PostS.ext e5 p⟩
        | brk ρ5 S5 => exact fun p => p
        | ret d S5 => exact fun p => p
        | exc c d ρ5 S5 => exact fun p => p
        | bad => exact fun p => p
      | none => exact fun p => p
    · refine .inl ⟨wa (by omega), ?_⟩
      rw [List.drop_eq_nil_of_le (by omega)] at p
      exact p σ F2 θ2 H .rfl ea hh⟩

end
end DL

/-! The D layer, 4: defs and calls. -/
namespace DL
open PySem PySem.Spec PyProof.Rows L2

/-- a def's promise, called where nothing is being shown -/
structure FnG (P : Program) (w : World) (K : PySem.W.Frag) (mg : Str → Option Value) (base : Heap) (k : Nat) (f : Addr) (fd : FuncData) (ps : List Str) (sp : Sp) : Prop where
  len : ∀ vs H Q E, sp vs H Q E → vs.length = ps.length
  run : ∀ (A : Around) (outer : List Env) (s : Shared) (H : Hp) (args : Args) (us : List Value) (vs : List V) (Q : VK) (E : XK), Room k A → A.guards = some [] → Env0 P w K mg base A outer s H → BindsTo s fd args (ps.zip us) → Vals vs us → sp vs H Q E →
    codeAny (model P w) A (.call (.ref f) args) (CR (L2.CX P w) outer P w H s Q E) s
theorem guards_deeper {A : Around} (h : A.guards = some []) (env : Env) : (A.deeper env).guards = some [] := by
  first | exact h | (simpa [Around.deeper, pushGuards, Code.guards, Code.isGuard, guardIds] using h)
theorem fn_ofG {P : Program} {w : World} {K : PySem.W.Frag} {mg : Str → Option Value} {base : Heap} {k : Nat} {f : Addr} {name qual : Str} {params : Arguments} {body : List Stmt} {scope : Scope} {dV kV doc pm cdv ct oc : Value} {an od : Option Addr}
    {osl : Array (Option Value)} {N ps : List Str} {sp : Sp} (lk : K.lookup f = some ⟨oc, od, .func (PySem.W.fnOf name qual params body scope dV kV doc pm an cdv ct), osl⟩) (hcd : PySem.W.codeIn K cdv qual = true) (S : FnScope N ps scope)
    (len : ∀ vs H Q E, sp vs H Q E → vs.length = ps.length)
    (hbody : ∀ (A : Around) (outer : List Env) (s : Shared) (H : Hp) (vs : List V) (Q : VK) (E : XK), Room k (A.deeper (envOfC qual scope s.heap.objs.size f cdv)) → A.guards = some [] → sp vs H Q E →
      ∃ t, PSs (cxOf (L2.CX P w) P w K mg base N qual scope f cdv A outer s H E) body t ∧ t { nx := fun _ H' => Q .non H', rt := Q } (L2.start N vs) H) :
    FnG P w K mg base (k + 1) f (PySem.W.fnOf name qual params body scope dV kV doc pm an cdv ct) ps sp := by
  refine ⟨len, fun A outer s H args us vs Q E hr hg e0 hb r hsp => ?_⟩
  have hl := len _ _ _ _ hsp
  have KX : K.In s.heap := e0.mod.kin.keeps fun b o e => (e0.bs b o e).1
  have lim : s.heap.NoLimit := e0.mod.nolimit.keeps fun b o e => (e0.bs b o e).1
  have hkind : ∀ y ∈ ps.zip us, scope.names.lookup y.1 = some .local ∨ (scope.names.lookup y.1 = some .cell ∧ ((cellsFrom (s.heap.objs.size + 1) scope.names []).lookup y.1).isSome = true) := fun ⟨n, v⟩ hy => by
    rcases S.par n (List.of_mem_zip hy).1 with q | q
    · exact .inl q
    · exact .inr ⟨q, PySem.W.cellsFrom_some _ _ _ (.inl q)⟩
  refine codeAny_call_function hr.depth (KX _ _ lk) rfl S.co S.gen rfl (PySem.W.codeRec_of KX hcd) (hb _ _ _ _ ?_)
  refine wpAny_newFunctionEnv_cells S.kind hkind fun env he s1 x => ?_
  subst he
  refine ⟨lim.keeps x.toInCall.keep, codeAny_func ?_⟩
  obtain ⟨t, ht, hq⟩ := hbody A outer s H vs Q E (hr.deeper _) hg hsp
  have I : Inv (cxOf (L2.CX P w) P w K mg base N qual scope f cdv A outer s H E) [] (L2.start N vs) H s1 := inv_start S hr.hd e0 hl r x
  refine wpAny_mono (ht.run [] s1 (L2.start N vs) H _ I hq) (fun fl s' hs => ?_) fun e s' hs => hs
  have fin : ∀ {σ' : L2.St} {H' : Hp} {v : V} {u : Value}, Inv (cxOf (L2.CX P w) P w K mg base N qual scope f cdv A outer s H E) [] σ' H' s' → RelV v u → Q v H' → CE outer P w H s Q u s' :=
    fun {σ' H' v u} J rv q => ⟨v, H', J.os, J.bare, J.base, J.hok, rv, q⟩
  cases fl with
  | ret u =>
    obtain ⟨v, σ', H', J, rv, q⟩ := hs
    exact fin J rv q
  | next =>
    obtain ⟨σ', H', J, q⟩ := hs
    exact fin (v := V.non) (u := Value.none) J rfl q
  | brk =>
    obtain ⟨_, _, _, q⟩ := hs
    exact False.elim q
  | cont =>
    obtain ⟨_, _, _, q⟩ := hs
    exact False.elim q

/-- a def's denotation: from its arguments and the store -/
abbrev Fn := List Dv → Sto → Re Dv
def WE (E : XK) : WX := fun c d _ H => E c d H
def spD (M : Ev) (n : Nat) (g : Fn) : Sp := fun vs H Q E => vs.length = n ∧ ∃ ds Φ F θ S, Reps M F θ vs ds ∧ HA M Φ F θ S H ∧ PostG M Φ (WE E) [] F θ (Rep M) (g ds S) Q
/-- a body run from the parameters -/
def SRe.toR : SRe → Re Dv
  | .nx _ S => .ok .non S
  | .ret d S => .ok d S
  | .exc c d _ S => .exc c d S
  | _ => .bad
def startD (n : Nat) (ds : List Dv) : En := ds.map some ++ List.replicate (n - ds.length) none
def runD (n : Nat) (f : Sm) : Fn := fun ds S => (f (startD n ds) S).toR
theorem start_ea {M : Ev} {F : Hp} {θ : List Addr} {N : List Str} {vs : List V} {ds : List Dv} (r : Reps M F θ vs ds) : EA M F θ (L2.start N vs) (startD N.length ds) := by
  refine ⟨by unfold L2.start startD; simp [r.length], fun i d h => ?_⟩
  unfold startD at h
  unfold L2.start
  by_cases hi : i < ds.length
  · rw [List.getElem?_append_left (by simpa using hi), List.getElem?_map] at h
    cases e : ds[i]? with
    | none => rw [e] at h; cases h
    | some x =>
      rw [e] at h
      cases h
      obtain ⟨v, hv, rv⟩ := r.get e
      exact ⟨v, by rw [List.getElem?_append_left (by simpa [r.length] using hi), List.getElem?_map, hv]; rfl, rv⟩
  · rw [List.getElem?_append_right (by simpa using hi), List.getElem?_replicate] at h
    split at h <;> cases h
section
variable {P : Program} {w : World} {K : PySem.W.Frag} {mg : Str → Option Value} {base : Heap}
/-- THE RULE for a def: its body's denotation -/
theorem def_ok {γ : Nat → Addr} {x qual : Str} {st : Stmt} {f : Addr} {fd : FuncData} {N ps : List Str} {k : Nat} {fb : Sm} (F : Fun K x qual st f fd) (S : FnScope N ps (defScope st))
    (hd : ∀ (X : Cx) (W : WX), X.prog = P → X.w = w → X.K = K → X.mg = mg → X.base = base → CtxD X W N (defScope st) k → DSs γ X W (defBody st) fb) : FnG P w K mg base (k + 1) f fd ps (spD ⟨K, γ⟩ ps.length (runD N.length fb)) := by
  obtain ⟨oc, od, kV, doc, pm, an, cdv, ct, osl, rfl, lk, hcd⟩ := F.ex
  refine fn_ofG lk hcd S (fun vs H Q E h => h.1) fun A outer s H vs Q E hr hg hsp => ?_
  obtain ⟨hl, ds, Φ, F, θ, St, r, hh, p⟩ := hsp
  have c : CtxD (cxOf (L2.CX P w) P w K mg base N qual (defScope st) f cdv A outer s H E) (WE E) N (defScope st) k :=
    ⟨⟨rfl, rfl, S.nd, rfl, takes_of rfl rfl rfl rfl, PassesOwn.leaving, guards_deeper hg _, hr⟩, fun _ => rfl, rfl, rfl⟩
  refine ⟨_, hd _ (WE E) rfl rfl rfl rfl rfl c, Φ, startD N.length ds, F, θ, St, start_ea r, hh, ?_⟩
  show PostS ⟨K, γ⟩ Φ _ _ _ _ _
  unfold runD at p
  revert p
  cases fb (startD N.length ds) St with
  | nx ρ S' => exact fun p σ F' θ' H' e a b => p .non F' θ' H' e b .non
  | ret d S' => exact fun p => p
  | exc c d ρ S' => exact fun p dd v σ F' θ' H' e a b hx rx => p dd v F' θ' H' e b hx rx
  | brk ρ S' => exact fun p => p.elim
  | ct ρ S' => exact fun p => p.elim
  | bad => exact fun p => p
end

/-! ### what outcomes may be told in place of others -/
/-- whoever is content with r' is content with r, where n cells stood at the beginning -/
def Le (n : Nat) (r r' : Re Dv) : Prop := ∀ (M : Ev) (Φ : Hp) (W : WX) (σ : L2.St) (F : Hp) (θ : List Addr) (Q : VK), θ.length = n → PostG M Φ W σ F θ (Rep M) r' Q → PostG M Φ W σ F θ (Rep M) r Q
theorem Le.refl {n : Nat} (r : Re Dv) : Le n r r := fun _ _ _ _ _ _ _ _ h => h
theorem Le.of_eq {n : Nat} {r r' : Re Dv} (h : r = r') : Le n r r' := h ▸ Le.refl r
theorem Le.bad {n : Nat} {r : Re Dv} : Le n r .bad := fun _ _ _ _ _ _ _ _ h => h.elim
theorem Le.trans {n : Nat} {a b c : Re Dv} (h1 : Le n a b) (h2 : Le n b c) : Le n a c := fun M Φ W σ F θ Q e p => h1 M Φ W σ F θ Q e (h2 M Φ W σ F θ Q e p)
mutual
/-- no cell from k on stands in it -/
def lowD (k : Nat) : Dv → Bool
  | .tup l => lowL k l
  | .ktup l => lowL k l
  | .lst l => lowL k l
  | .ro l => lowL k l
  | .ins _ fs => lowF k fs
  | .dic l => lowK k l
  | .cell j => decide (j < k)
  | .non => true
  | .bl _ => true
  | .int _ => true
  | .str _ => true
  | .con _ => true
  | .exn _ _ _ d => lowD k d
  | .cls _ => true
def lowL (k : Nat) : List Dv → Bool
  | [] => true
  | d :: r => lowD k d && lowL k r
def lowF (k : Nat) : List (Str × Dv) → Bool
  | [] => true
  | (_, d) :: r => lowD k d && lowF k r
def lowK (k : Nat) : List (List L2.Key × Dv) → Bool
  | [] => true
  | (_, d) :: r => lowD k d && lowK k r
end
mutual
theorem Rep.cut {M : Ev} {F : Hp} {θ : List Addr} {k : Nat} : ∀ {v : V} {d : Dv}, Rep M F θ v d → lowD k d = true → Rep M F (θ.take k) v d
  | _, _, .non, _ => .non
  | _, _, .bl b, _ => .bl b
  | _, _, .int i, _ => .int i
  | _, _, .str x, _ => .str x
  | _, _, .tup h r, e => .tup h (Reps.cut r (by rw [lowD] at e; exact e))
  | _, _, .ktup h h2 r, e => .ktup h h2 (Reps.cut r (by rw [lowD] at e; exact e))
  | _, _, .lst h r, e => .lst h (Reps.cut r (by rw [lowD] at e; exact e))
  | _, _, .ro h r, e => .ro h (Reps.cut r (by rw [lowD] at e; exact e))
  | _, _, .ins h r, e => .ins h (RepF.cut r (by rw [lowD] at e; exact e))
  | _, _, .dic h r, e => .dic h (RepK.cut r (by rw [lowD] at e; exact e))
  | _, _, .cell h, e => .cell (by
      rw [lowD] at e
      rw [List.getElem?_take_of_lt (of_decide_eq_true e)]; exact h)
  | _, _, .con v, _ => .con v
  | _, _, .exn h r, e => .exn h (Rep.cut r (by rw [lowD] at e; exact e))
  | _, _, .cls c, _ => .cls c
theorem Reps.cut {M : Ev} {F : Hp} {θ : List Addr} {k : Nat} : ∀ {v : List V} {d : List Dv}, Reps M F θ v d → lowL k d = true → Reps M F (θ.take k) v d
  | _, _, .nil, _ => .nil
  | _, _, .cons h r, e => by
    rw [lowL, Bool.and_eq_true] at e
    exact .cons (Rep.cut h e.1) (Reps.cut r e.2)
theorem RepF.cut {M : Ev} {F : Hp} {θ : List Addr} {k : Nat} : ∀ {v : List (Str × V)} {d : List (Str × Dv)}, RepF M F θ v d → lowF k d = true → RepF M F (θ.take k) v d
  | _, _, .nil, _ => .nil
  | _, _, .cons h r, e => by
    rw [lowF, Bool.and_eq_true] at e
    exact .cons (Rep.cut h e.1) (RepF.cut r e.2)
theorem RepK.cut {M : Ev} {F : Hp} {θ : List Addr} {k : Nat} : ∀ {v : List (List L2.Key × V)} {d : List (List L2.Key × Dv)}, RepK M F θ v d → lowK k d = true → RepK M F (θ.take k) v d
  | _, _, .nil, _ => .nil
  | _, _, .cons h r, e => by
    rw [lowK, Bool.and_eq_true] at e
    exact .cons (Rep.cut h e.1) (RepK.cut r e.2)
end
mutual
theorem Rep.low {M : Ev} {F : Hp} {θ : List Addr} : ∀ {v : V} {d : Dv}, Rep M F θ v d → lowD θ.length d = true
  | _, _, .non => by rw [lowD]
  | _, _, .bl b => by rw [lowD]
  | _, _, .int i => by rw [lowD]
  | _, _, .str x => by rw [lowD]
  | _, _, .tup h r => by rw [lowD]; exact Reps.low r
  | _, _, .ktup h h2 r => by rw [lowD]; exact Reps.low r
  | _, _, .lst h r => by rw [lowD]; exact Reps.low r
  | _, _, .ro h r => by rw [lowD]; exact Reps.low r
  | _, _, .ins h r => by rw [lowD]; exact RepF.low r
  | _, _, .dic h r => by rw [lowD]; exact RepK.low r
  | _, _, .cell h => by rw [lowD]; exact decide_eq_true (List.getElem?_eq_some_iff.mp h).1
  | _, _, .con v => by rw [lowD]
  | _, _, .exn h r => by rw [lowD]; exact Rep.low r
  | _, _, .cls c => by rw [lowD]
theorem Reps.low {M : Ev} {F : Hp} {θ : List Addr} : ∀ {v : List V} {d : List Dv}, Reps M F θ v d → lowL θ.length d = true
  | _, _, .nil => by rw [lowL]
  | _, _, .cons h r => by rw [lowL, Rep.low h, Reps.low r]; rfl
theorem RepF.low {M : Ev} {F : Hp} {θ : List Addr} : ∀ {v : List (Str × V)} {d : List (Str × Dv)}, RepF M F θ v d → lowF θ.length d = true
  | _, _, .nil => by rw [lowF]
  | _, _, .cons h r => by rw [lowF, Rep.low h, RepF.low r]; rfl
theorem RepK.low {M : Ev} {F : Hp} {θ : List Addr} : ∀ {v : List (List L2.Key × V)} {d : List (List L2.Key × Dv)}, RepK M F θ v d → lowK θ.length d = true
  | _, _, .nil => by rw [lowK]
  | _, _, .cons h r => by rw [lowK, Rep.low h, RepK.low r]; rfl
end
def lowO (k : Nat) : Ob → Bool
  | .lst l => lowL k l
  | .ins _ fs => lowF k fs
  | .dic l => lowK k l
  | .dik l => lowK k (l.map one)
  | .gone => true
theorem RepO.cut {M : Ev} {F : Hp} {θ : List Addr} {k : Nat} {o : HO} {ob : Ob} (h : RepO M F θ o ob) (e : lowO k ob = true) : RepO M F (θ.take k) o ob := by
  cases o <;> cases ob <;> first | exact h.elim | exact Reps.cut h e | exact ⟨h.1, RepF.cut h.2 e⟩ | exact RepK.cut h e
theorem RepO.low {M : Ev} {F : Hp} {θ : List Addr} {o : HO} {ob : Ob} (h : RepO M F θ o ob) : lowO θ.length ob = true := by
  cases o <;> cases ob <;> first | exact h.elim | exact Reps.low h | exact RepF.low h.2 | exact RepK.low h
/-- a store holds nothing of later cells -/
def Closed (S : Sto) : Prop := ∀ ob ∈ S, lowO S.length ob = true
theorem HA.closed {M : Ev} {Φ : Hp} {F : Hp} {θ : List Addr} {S : Sto} {H : Hp} (h : HA M Φ F θ S H) : Closed S := fun ob hb => by
  obtain ⟨k, hk, e⟩ := List.mem_iff_getElem.mp hb
  by_cases g : ob = .gone
  · rw [g]; rfl
  · have hk' : k < θ.length := by rw [h.len]; exact hk
    obtain ⟨_, o, _, r⟩ := h.live k θ[k] ob (List.getElem?_eq_getElem hk') (by rw [List.getElem?_eq_getElem hk, e]) g
    rw [← h.len]
    exact r.low
theorem HA.cut {M : Ev} {Φ : Hp} {F : Hp} {θ : List Addr} {S T : Sto} {H : Hp} (h : HA M Φ F θ (S ++ T) H) (c : Closed S) : HA M Φ F (θ.take S.length) S H := by
  have hl : S.length ≤ θ.length := by rw [h.len, List.length_append]; omega
  refine ⟨h.sub, by rw [List.length_take]; omega, h.nd.sublist (List.take_sublist _ _), fun a ha => h.trk a (List.mem_of_mem_take ha), fun k a ob h1 h2 h3 => ?_, fun a o q => let ⟨g1, g2, g3⟩ := h.fr a o q; ⟨g1, g2, fun m => g3 (List.mem_of_mem_take m)⟩⟩
  have hk : k < S.length := (List.getElem?_eq_some_iff.mp h2).1
  rw [List.getElem?_take_of_lt hk] at h1
  obtain ⟨h4, o, h5, h6⟩ := h.live k a ob h1 (by rw [List.getElem?_append_left hk]; exact h2) h3
  exact ⟨h4, o, h5, h6.cut (c ob (List.mem_of_getElem? h2))⟩
theorem Gr.cut {F F' : Hp} {θ θ' : List Addr} {n : Nat} (e : Gr F F' θ θ') (h : θ.length ≤ n) : Gr F F' θ (θ'.take n) := ⟨e.le, fun k a q => by
  have := (List.getElem?_eq_some_iff.mp q).1
  rw [List.getElem?_take_of_lt (by omega)]; exact e.pre k a q⟩
/-- later cells are dropped -/
theorem Le.drop {n : Nat} {d : Dv} {S T : Sto} (hn : n ≤ S.length) (c : Closed S) (hd : lowD S.length d = true) : Le n (.ok d (S ++ T)) (.ok d S) := fun M Φ W σ F θ Q e p v F' θ' H' g hh r =>
  p v F' (θ'.take S.length) H' (g.cut (by omega)) (hh.cut c) (r.cut hd)
theorem Le.dropE {n : Nat} {x : Nat} {d : Dv} {S T : Sto} (hn : n ≤ S.length) (c : Closed S) (hd : lowD S.length d = true) : Le n (.exc x d (S ++ T)) (.exc x d S) := fun M Φ W σ F θ Q e p dd v F' θ' H' g hh hx r =>
  p dd v F' (θ'.take S.length) H' (g.cut (by omega)) (hh.cut c) hx (r.cut hd)
/-- a cell that is handed back becomes data -/
theorem Le.freezeL {n : Nat} {k : Nat} {l : List Dv} {S : Sto} (h : S[k]? = some (.lst l)) : Le n (.ok (.cell k) S) (.ok (.lst l) (S.set k .gone)) := fun M Φ W σ F θ Q e p v F' θ' H' g hh r => by
  cases r with
  | @cell k a hk =>
    obtain ⟨o, h1, h2, h3, h4⟩ := hh.freeze hk h (by intro z; cases z)
    cases o <;> first | exact h2.elim | skip
    exact p _ _ _ _ (g.trans h3) h4 (.lst upd_same (Reps.ext h3 h2))
theorem Le.freezeI {n : Nat} {k : Nat} {c : Nat} {fs : List (Str × Dv)} {S : Sto} (h : S[k]? = some (.ins c fs)) : Le n (.ok (.cell k) S) (.ok (.ins c fs) (S.set k .gone)) := fun M Φ W σ F θ Q e p v F' θ' H' g hh r => by
  cases r with
  | @cell k a hk =>
    obtain ⟨o, h1, h2, h3, h4⟩ := hh.freeze hk h (by intro z; cases z)
    cases o <;> first | exact h2.elim | skip
    obtain ⟨rfl, h2⟩ := h2
    exact p _ _ _ _ (g.trans h3) h4 (.ins upd_same (RepF.ext h3 h2))
theorem FnG.imp {P : Program} {w : World} {K : PySem.W.Frag} {mg : Str → Option Value} {base : Heap} {k : Nat} {f : Addr} {fd : FuncData} {ps : List Str} {sp sp' : Sp} (F : FnG P w K mg base k f fd ps sp)
    (h : ∀ vs H Q E, sp' vs H Q E → sp vs H Q E) : FnG P w K mg base k f fd ps sp' :=
  ⟨fun vs H Q E q => F.len vs H Q E (h _ _ _ _ q), fun A outer s H args us vs Q E hr hg he hb hv hs => F.run A outer s H args us vs Q E hr hg he hb hv (h _ _ _ _ hs)⟩
theorem FnG.mono {P : Program} {w : World} {K : PySem.W.Frag} {mg : Str → Option Value} {base : Heap} {j k : Nat} {f : Addr} {fd : FuncData} {ps : List Str} {sp : Sp} (F : FnG P w K mg base j f fd ps sp) (h : j ≤ k) :
    FnG P w K mg base k f fd ps sp := ⟨F.len, fun A outer s H args us vs Q E hr => F.run A outer s H args us vs Q E (hr.mono h)⟩
/-- the mirror in the place of the denotation -/
theorem FnG.told {P : Program} {w : World} {K : PySem.W.Frag} {mg : Str → Option Value} {base : Heap} {k n : Nat} {f : Addr} {fd : FuncData} {ps : List Str} {M : Ev} {g g' : Fn} (F : FnG P w K mg base k f fd ps (spD M n g))
    (h : ∀ ds S, ds.length = n → Closed S → lowL S.length ds = true → Le S.length (g ds S) (g' ds S)) : FnG P w K mg base k f fd ps (spD M n g') :=
  F.imp fun vs H Q E ⟨hl, ds, Φ, F, θ, S, r, hh, p⟩ => ⟨hl, ds, Φ, F, θ, S, r, hh, h ds S (by rw [← r.length]; exact hl) hh.closed (by rw [← hh.len]; exact r.low) M _ _ _ F θ Q hh.len p⟩
end DL

/-! The D layer, 5: calls of defs and classes by a name. -/
namespace DL
open PySem PySem.Spec PyProof.Rows L2

/-- calling the value u behaves as g -/
def CallV (γ : Nat → Addr) (X : Cx) (W : WX) (u : Value) (n : Nat) (g : Fn) : Prop :=
  ∀ (pins : List (Addr × Obj)) (s : Shared) (σ : L2.St) (H : Hp) (vs : List V) (us : List Value) (Q : VK) (Φ F : Hp) (θ : List Addr) (S : Sto) (ds : List Dv), Inv X pins σ H s → Vals vs us → Reps ⟨X.K, γ⟩ F θ vs ds → HA ⟨X.K, γ⟩ Φ F θ S H → ds.length = n →
    PostG ⟨X.K, γ⟩ Φ W σ F θ (Rep ⟨X.K, γ⟩) (g ds S) Q → wpAny (model X.prog X.w) X.A (call u us) (EP X pins σ Q) X.xe s
/-- the name x of the module is called with n arguments, at level j -/
structure Cal (γ : Nat → Addr) (P : Program) (w : World) (K : PySem.W.Frag) (mg : Str → Option Value) (base : Heap) (x : Str) (j n : Nat) (g : Fn) : Prop where
  ex : ∃ u : Value, mg x = some u ∧ PySem.W.keepIn K u = true ∧ ∀ (X : Cx) (W : WX), X.prog = P → X.w = w → X.K = K → X.mg = mg → X.base = base → Room j X.A → X.A.guards = some [] → Takes X W → CallV γ X W u n g
section
variable {γ : Nat → Addr} {P : Program} {w : World} {K : PySem.W.Frag} {mg : Str → Option Value} {base : Heap} {x : Str} {j n : Nat} {g g' : Fn}
theorem Cal.mono {j' : Nat} (h : Cal γ P w K mg base x j n g) (hj : j ≤ j') : Cal γ P w K mg base x j' n g := by
  obtain ⟨u, h1, h2, h3⟩ := h.ex
  exact ⟨u, h1, h2, fun X W a b c d e r => h3 X W a b c d e (r.mono hj)⟩
theorem Cal.told (h : Cal γ P w K mg base x j n g) (k : ∀ ds S, ds.length = n → Closed S → lowL S.length ds = true → Le S.length (g ds S) (g' ds S)) : Cal γ P w K mg base x j n g' := by
  obtain ⟨u, h1, h2, h3⟩ := h.ex
  refine ⟨u, h1, h2, fun X W a b c d e r1 r2 r3 pins s σ H vs us Q Φ F θ S ds I rv rd hh hl p => ?_⟩
  refine h3 X W a b c d e r1 r2 r3 pins s σ H vs us Q Φ F θ S ds I rv rd hh hl ?_
  exact k ds S hl hh.closed (by rw [← hh.len]; exact rd.low) _ Φ W σ F θ Q hh.len p
/-- .. of a def -/
theorem Cal.fn {f : Addr} {fd : FuncData} {ps : List Str} (F : FnG P w K mg base j f fd ps (spD ⟨K, γ⟩ n g)) (hm : mg x = some (.ref f)) (hk : PySem.W.keepIn K (.ref f) = true) (hb : Binds K fd ps []) : Cal γ P w K mg base x j n g := by
  refine ⟨.ref f, hm, hk, ?_⟩
  rintro X W rfl rfl rfl rfl rfl hr hg tk pins s σ H vs us Q Φ F0 θ S ds I rv rd hh hl p
  have hsp : spD ⟨X.K, γ⟩ n g vs H Q (fun c d H' => W c d σ H') := ⟨by rw [rd.length]; exact hl, ds, Φ, F0, θ, S, rd, hh, by
    revert p
    cases g ds S with
    | ok d S' => exact fun p => p
    | exc c d S' => exact fun p => p
    | bad => exact fun p => p⟩
  have hl2 : us.length = ps.length := by rw [← rv.length]; exact F.len _ _ _ _ hsp
  have hb' := hb s us I.kIn (by rw [List.append_nil]; exact hl2)
  rw [List.append_nil] at hb'
  refine wpAny_call (codeAny_mono (F.run X.A X.stack s H ⟨us, []⟩ us vs Q _ hr hg I.env0 hb' rv hsp) fun r s' hq => ?_)
  cases r with
  | error e => exact tk e s' (XE.of_call I (fun cls d H' h => h) hq)
  | ok fl =>
    cases fl with
    | ret u => exact I.after hq
    | next => exact False.elim hq
    | brk => exact False.elim hq
    | cont => exact False.elim hq
/-- C(..): a new instance in a cell, then __init__ -/
def makeD (c : Nat) (g : Fn) : Fn := fun ds S => (g (.cell S.length :: ds) (S ++ [.ins c []])).bind fun d S' => match d with
  | .non => .ok (.cell S.length) S'
  | _ => .bad
theorem guards_make {A : Around} {C : Addr} {us : List Value} {kw : List (Str × Value)} (h : A.guards = some []) : (A.under (.builtin "type.__call__" ⟨.ref C :: us, kw⟩)).guards = some [] := by
  first | exact h | (simpa [Around.under, pushGuards, Code.guards, Code.isGuard, guardIds] using h)
theorem Cal.make {c : Nat} {f : Addr} {fd : FuncData} {ps : List Str} (M : Mk K (γ c) f) (F : FnG P w K mg base j f fd ps (spD ⟨K, γ⟩ (n + 1) g)) (hm : mg x = some (.ref (γ c))) (hb : Binds K fd ps []) : Cal γ P w K mg base x (j + 1) n (makeD c g) := by
  refine ⟨.ref (γ c), hm, M.kp, ?_⟩
  rintro X W rfl rfl rfl rfl rfl hr hg tk pins s σ H vs us Q Φ F0 θ S ds I rv rd hh hl p
  have n1 : H s.heap.objs.size = none := I.hok.fresh (Nat.le_refl _)
  have n2 : H (s.heap.objs.size + 1) = none := I.hok.fresh (Nat.le_succ _)
  have ne : s.heap.objs.size ≠ s.heap.objs.size + 1 := Nat.ne_of_lt (Nat.lt_succ_self _)
  have I2 := Inv.made (C := γ c) I
  have h1 : HA ⟨X.K, γ⟩ Φ F0 θ S (upd H s.heap.objs.size (.own (s.heap.objs.size + 1))) := hh.same fun a o q => by rw [upd_ne (ne_of_none q n1)]; exact q
  obtain ⟨e2, h2⟩ := h1.newCell (p := s.heap.objs.size + 1) (o := .ins (γ c) s.heap.objs.size []) (ob := .ins c []) (by rw [upd_ne (Ne.symm ne)]; exact n2) ⟨rfl, .nil⟩
  have hcell : Rep ⟨X.K, γ⟩ F0 (θ ++ [s.heap.objs.size + 1]) (.ref (s.heap.objs.size + 1)) (.cell S.length) := .cell (by
    rw [← hh.len, List.getElem?_append_right (Nat.le_refl _), Nat.sub_self]; rfl)
  have p2 := PostG.ext e2 p
  unfold makeD at p2
  have hsp : spD ⟨X.K, γ⟩ (n + 1) g (.ref (s.heap.objs.size + 1) :: vs) (upd (upd H s.heap.objs.size (.own (s.heap.objs.size + 1))) (s.heap.objs.size + 1) (.ins (γ c) s.heap.objs.size [])) (fun v H2 => v = .non ∧ Q (.ref (s.heap.objs.size + 1)) H2) (fun c d H' => W c d σ H') := by
    refine ⟨by rw [List.length_cons, rd.length, hl], .cell S.length :: ds, Φ, F0, θ ++ [s.heap.objs.size + 1], S ++ [.ins c []], .cons hcell (rd.ext e2), h2, ?_⟩
    revert p2
    cases g (.cell S.length :: ds) (S ++ [.ins c []]) with
    | ok d S' =>
      intro p v F' θ' H' e' h' r'
      cases d with
      | non => exact ⟨rep_non r', p _ F' θ' H' e' h' (hcell.ext e')⟩
      | _ => exact p.elim
    | exc c d S' => exact fun p => p
    | bad => exact fun p => p
  have r2 : Vals (V.ref (s.heap.objs.size + 1) :: vs) (Value.ref (s.heap.objs.size + 1) :: us) := .cons rfl rv
  have hl2 : (Value.ref (s.heap.objs.size + 1) :: us).length = ps.length := by rw [← r2.length]; exact F.len _ _ _ _ hsp
  have hb' := hb { s with heap := (s.heap.push (PySem.W.instObj (γ c) s.heap.objs.size)) } (Value.ref (s.heap.objs.size + 1) :: us)
  refine wpAny_call (make_map (f := f) I.kIn M.makes M.init (beq_iff_eq.mp M.fn) (codeAny_mono (F.run _ X.stack _ _ ⟨Value.ref (s.heap.objs.size + 1) :: us, []⟩ (Value.ref (s.heap.objs.size + 1) :: us) _ _ _ (hr.make (γ c) us [])
    (guards_make hg) (I2.env0.make (γ c) us []) (by
      have z := hb _ (Value.ref (s.heap.objs.size + 1) :: us) I2.kIn (by rw [List.append_nil]; exact hl2)
      rw [List.append_nil] at z
      exact z) r2 hsp) fun r s' hq' => ?_))
  cases r with
  | error e => exact tk e s' (XE.of_call I2 (fun cls d H' h => h) hq')
  | ok fl =>
    cases fl with
    | ret u =>
      obtain ⟨v, H', I3, rv, ev, q3⟩ := I2.after hq'
      subst ev
      exact ⟨rv, ⟨V.ref (s.heap.objs.size + 1), H', I3, rfl, q3⟩⟩
    | next => exact False.elim hq'
    | brk => exact False.elim hq'
    | cont => exact False.elim hq'
end
section
variable {γ : Nat → Addr} {X : Cx} {W : WX} {N : List Str} {sc : Scope} {k : Nat} {pos : Pos}
def eCall (n : Nat) (g : Fn) (a : Xs) : Ex := fun ρ S => (a ρ S).bind fun ds S1 => if ds.length = n then g ds S1 else .bad
theorem de_call {x : Str} {j n : Nat} {g : Fn} {p : Pos} {e : Expr} {es : List Expr} {fa : Xs} (c : Ctx X W N sc k) (h : Cal γ X.prog X.w X.K X.mg X.base x j n g) (hj : j ≤ k := by decide) (hg : sc.names.lookup x = some .globalImplicit := by rfl)
    (ha : DAs γ X W (e :: es) fa) (hdb : (x == ("__debug__" : Str)) = false := by decide) (he : starEach (e :: es) X.env = (false, eval e X.env) :: starEach es X.env := by rfl) (hpl : (backTo pos (starEach es X.env)).any (·.1) = false := by rfl) :
    DE γ X W (.Call (.Name x p) (e :: es) [] pos) (eCall n g fa) := by
  obtain ⟨u, hm, hk, hc⟩ := h.ex
  refine ⟨fun pins s σ H Q I ⟨Φ, ρ, F, θ, S, ea, hh, p⟩ => ?_⟩
  refine wpAny_Call_Name_kw (ld_glob I (show X.env.scope.names.lookup x = some .globalImplicit by rw [c.hsc]; exact hg) hm ?_ hdb)
  refine PySem.W.callWith_K (h₀ := X.base) I.ok.mod.kin hk (thn (ha.run pos pins s σ H (fun vs H' => ∃ F θ S ds, Reps ⟨X.K, γ⟩ F θ vs ds ∧ HA ⟨X.K, γ⟩ Φ F θ S H' ∧ ds.length = n ∧ PostG ⟨X.K, γ⟩ Φ W σ F θ (Rep ⟨X.K, γ⟩) (g ds S) Q) I ?_) fun us s1 ⟨vs, H1, I1, r, F1, θ1, S1, ds, rd, h1, hl, p1⟩ => ⟨I1.kIn, ?_⟩) he hpl
  · exact ⟨Φ, ρ, F, θ, S, ea, hh, PostG.seq p fun ds S' vs F' θ' H' _ e h' r p' => let ⟨a, b⟩ := post_if p'; ⟨F', θ', S', ds, r, h', a, b⟩⟩
  · exact hc X W rfl rfl rfl rfl rfl (c.hr.mono hj) c.gd c.tk pins s1 σ H1 vs us Q Φ F1 θ1 S1 ds I1 r rd h1 hl p1
theorem de_call0 {x : Str} {j : Nat} {g : Fn} {p : Pos} (c : Ctx X W N sc k) (h : Cal γ X.prog X.w X.K X.mg X.base x j 0 g) (hj : j ≤ k := by decide) (hg : sc.names.lookup x = some .globalImplicit := by rfl) (hdb : (x == ("__debug__" : Str)) = false := by decide) :
    DE γ X W (.Call (.Name x p) [] [] pos) (fun _ S => g [] S) := by
  obtain ⟨u, hm, hk, hc⟩ := h.ex
  refine ⟨fun pins s σ H Q I ⟨Φ, ρ, F, θ, S, ea, hh, p⟩ => ?_⟩
  refine wpAny_Call_Name_kw (ld_glob I (show X.env.scope.names.lookup x = some .globalImplicit by rw [c.hsc]; exact hg) hm ?_ hdb)
  exact PySem.W.callWith_K0 I.kIn hk (hc X W rfl rfl rfl rfl rfl (c.hr.mono hj) c.gd c.tk pins s σ H [] [] Q Φ F θ S [] I .nil .nil hh rfl p)
end
end DL

/-! The D layer, 6: operators, comparisons, subscripts, by the kinds of data. -/
namespace DL
open PySem PySem.Spec PyProof.Rows L2

/-! ### lists and tuples as they are read -/
def asL (S : Sto) : Dv → Option (List Dv)
  | .lst l => some l
  | .cell k => match S[k]? with
    | some (.lst l) => some l
    | _ => none
  | _ => none
def asR (S : Sto) : Dv → Option (List Dv)
  | .ro l => some l
  | d => asL S d
def asT : Dv → Option (List Dv)
  | .tup l => some l
  | .ktup l => some l
  | _ => none
def asQ (S : Sto) : Dv → Option (List Dv)
  | .tup l => some l
  | .ktup l => some l
  | d => asR S d
section
variable {M : Ev} {Φ : Hp} {F : Hp} {θ : List Addr} {S : Sto} {H : Hp} {v : V} {d : Dv} {l : List Dv}
theorem asL_rep (r : Rep M F θ v d) (hh : HA M Φ F θ S H) (e : asL S d = some l) : ∃ a xs, v = .ref a ∧ H a = some (.lst xs) ∧ Reps M F θ xs l := by
  cases r with
  | lst h rs => cases e; exact ⟨_, _, rfl, hh.sub _ _ h, rs⟩
  | @cell k a h =>
    have e' : (match S[k]? with | some (.lst l) => some l | _ => none) = some l := e
    split at e'
    · rename_i l' hk
      cases e'
      obtain ⟨_, o, h5, h6⟩ := hh.live k a _ h hk (by intro z; cases z)
      cases o <;> first | exact h6.elim | skip
      exact ⟨_, _, rfl, h5, h6⟩
    · cases e'
  | _ => cases e
theorem asR_rep (r : Rep M F θ v d) (hh : HA M Φ F θ S H) (e : asR S d = some l) : ∃ a xs, v = .ref a ∧ SqL M.K H a xs ∧ Reps M F θ xs l := by
  by_cases q : ∃ m, d = .ro m
  · obtain ⟨m, rfl⟩ := q
    cases r with
    | ro h rs => cases e; exact ⟨_, _, rfl, (show Gr F H θ θ from ⟨hh.sub, fun _ _ q => q⟩).sqL h, rs⟩
  · have e' : asL S d = some l := by
      cases d <;> first | exact e | exact absurd ⟨_, rfl⟩ q
    obtain ⟨a, xs, h1, h2, h3⟩ := asL_rep r hh e'
    exact ⟨a, xs, h1, SqL.of h2, h3⟩
theorem asT_rep (r : Rep M F θ v d) (hh : HA M Φ F θ S H) (e : asT d = some l) : ∃ a xs, v = .ref a ∧ SqT M.K H a xs ∧ Reps M F θ xs l := by
  cases r with
  | tup h rs => cases e; exact ⟨_, _, rfl, .inl (.inl (hh.sub _ _ h)), rs⟩
  | ktup h _ rs => cases e; exact ⟨_, _, rfl, .inl (.inr ⟨_, hh.sub _ _ h⟩), rs⟩
  | _ => cases e
theorem asQ_rep (r : Rep M F θ v d) (hh : HA M Φ F θ S H) (e : asQ S d = some l) : ∃ a xs, v = .ref a ∧ (SqL M.K H a xs ∨ SqT M.K H a xs) ∧ Reps M F θ xs l := by
  by_cases q : ∃ m, d = .tup m ∨ d = .ktup m
  · obtain ⟨m, rfl | rfl⟩ := q
    · cases e
      obtain ⟨a, xs, h1, h2, h3⟩ := asT_rep r hh rfl
      exact ⟨a, xs, h1, .inr h2, h3⟩
    · cases e
      obtain ⟨a, xs, h1, h2, h3⟩ := asT_rep r hh rfl
      exact ⟨a, xs, h1, .inr h2, h3⟩
  · have e' : asR S d = some l := by
      cases d <;> first | exact e | exact absurd ⟨_, .inl rfl⟩ q | exact absurd ⟨_, .inr rfl⟩ q
    obtain ⟨a, xs, h1, h2, h3⟩ := asR_rep r hh e'
    exact ⟨a, xs, h1, .inl h2, h3⟩
end

/-! ### plain data as the library has it -/
mutual
def pyP : Dv → Option PyData
  | .non => some .none
  | .bl b => some (.bool b)
  | .int i => some (.int i)
  | .str x => some (.str x)
  | .tup l => (pyPs l).map .tuple
  | .ktup l => (pyPs l).map .tuple
  | .lst l => (pyPs l).map .list
  | .ro l => (pyPs l).map .list
  | .ins _ _ => none
  | .dic _ => none
  | .cell _ => none
  | .con _ => none
  | .exn _ _ _ _ => none
  | .cls _ => none
def pyPs : List Dv → Option (List PyData)
  | [] => some []
  | d :: r => (pyP d).bind fun p => (pyPs r).map fun ps => p :: ps
end
mutual
def toPy (S : Sto) : Dv → Option PyData
  | .non => some .none
  | .bl b => some (.bool b)
  | .int i => some (.int i)
  | .str x => some (.str x)
  | .tup l => (toPys S l).map .tuple
  | .ktup l => (toPys S l).map .tuple
  | .lst l => (toPys S l).map .list
  | .ro l => (toPys S l).map .list
  | .ins _ _ => none
  | .dic _ => none
  | .cell k => match S[k]? with
    | some (.lst l) => (pyPs l).map .list
    | _ => none
  | .con _ => none
  | .exn _ _ _ _ => none
  | .cls _ => none
def toPys (S : Sto) : List Dv → Option (List PyData)
  | [] => some []
  | d :: r => (toPy S d).bind fun p => (toPys S r).map fun ps => p :: ps
end
section
variable {M : Ev} {Φ : Hp} {F : Hp} {θ : List Addr} {S : Sto} {H : Hp}
mutual
theorem pyP_rep (hh : ∀ a o, F a = some o → H a = some o) : ∀ {v : V} {d : Dv} {p : PyData}, Rep M F θ v d → pyP d = some p → Dp M.K H v p
  | _, _, _, .non, e => by rw [pyP] at e; cases e; exact .non
  | _, _, _, .bl b, e => by rw [pyP] at e; cases e; exact .bl b
  | _, _, _, .int i, e => by rw [pyP] at e; cases e; exact .int i
  | _, _, _, .str x, e => by rw [pyP] at e; cases e; exact .str x
  | _, _, _, .tup h r, e => by
    rw [pyP, Option.map_eq_some_iff] at e
    obtain ⟨q, e, rfl⟩ := e
    exact .tup (.inl (.inl (hh _ _ h))) (pyPs_rep hh r e)
  | _, _, _, .ktup h _ r, e => by
    rw [pyP, Option.map_eq_some_iff] at e
    obtain ⟨q, e, rfl⟩ := e
    exact .tup (.inl (.inr ⟨_, hh _ _ h⟩)) (pyPs_rep hh r e)
  | _, _, _, .lst h r, e => by
    rw [pyP, Option.map_eq_some_iff] at e
    obtain ⟨q, e, rfl⟩ := e
    exact .lst (SqL.of (hh _ _ h)) (pyPs_rep hh r e)
  | _, _, _, .ro h r, e => by
    rw [pyP, Option.map_eq_some_iff] at e
    obtain ⟨q, e, rfl⟩ := e
    exact .lst ((show Gr F H θ θ from ⟨hh, fun _ _ q => q⟩).sqL h) (pyPs_rep hh r e)
  | _, _, _, .ins _ _, e => by rw [pyP] at e; cases e
  | _, _, _, .dic _ _, e => by rw [pyP] at e; cases e
  | _, _, _, .cell _, e => by rw [pyP] at e; cases e
  | _, _, _, .con _, e => by rw [pyP] at e; cases e
  | _, _, _, .exn _ _, e => by rw [pyP] at e; cases e
  | _, _, _, .cls _, e => by rw [pyP] at e; cases e
theorem pyPs_rep (hh : ∀ a o, F a = some o → H a = some o) : ∀ {v : List V} {d : List Dv} {p : List PyData}, Reps M F θ v d → pyPs d = some p → DpAll M.K H v p
  | _, _, _, .nil, e => by rw [pyPs] at e; cases e; exact .nil
  | _, _, _, .cons h r, e => by
    rw [pyPs, Option.bind_eq_some_iff] at e
    obtain ⟨q, e1, e⟩ := e
    rw [Option.map_eq_some_iff] at e
    obtain ⟨qs, e2, rfl⟩ := e
    exact .cons (pyP_rep hh h e1) (pyPs_rep hh r e2)
end
mutual
theorem toPy_rep (hh : HA M Φ F θ S H) : ∀ {v : V} {d : Dv} {p : PyData}, Rep M F θ v d → toPy S d = some p → Dp M.K H v p
  | _, _, _, .non, e => by rw [toPy] at e; cases e; exact .non
  | _, _, _, .bl b, e => by rw [toPy] at e; cases e; exact .bl b
  | _, _, _, .int i, e => by rw [toPy] at e; cases e; exact .int i
  | _, _, _, .str x, e => by rw [toPy] at e; cases e; exact .str x
  | _, _, _, .tup h r, e => by
    rw [toPy, Option.map_eq_some_iff] at e
    obtain ⟨q, e, rfl⟩ := e
    exact .tup (.inl (.inl (hh.sub _ _ h))) (toPys_rep hh r e)
  | _, _, _, .ktup h _ r, e => by
    rw [toPy, Option.map_eq_some_iff] at e
    obtain ⟨q, e, rfl⟩ := e
    exact .tup (.inl (.inr ⟨_, hh.sub _ _ h⟩)) (toPys_rep hh r e)
  | _, _, _, .lst h r, e => by
    rw [toPy, Option.map_eq_some_iff] at e
    obtain ⟨q, e, rfl⟩ := e
    exact .lst (SqL.of (hh.sub _ _ h)) (toPys_rep hh r e)
  | _, _, _, .ro h r, e => by
    rw [toPy, Option.map_eq_some_iff] at e
    obtain ⟨q, e, rfl⟩ := e
    exact .lst ((show Gr F H θ θ from ⟨hh.sub, fun _ _ q => q⟩).sqL h) (toPys_rep hh r e)
  | _, _, _, .ins _ _, e => by rw [toPy] at e; cases e
  | _, _, _, .dic _ _, e => by rw [toPy] at e; cases e
  | _, _, _, .cell h, e => by
    rw [toPy] at e
    split at e
    · rename_i l hk
      rw [Option.map_eq_some_iff] at e
      obtain ⟨q, e, rfl⟩ := e
      obtain ⟨_, o, h5, h6⟩ := hh.live _ _ _ h hk (by intro z; cases z)
      cases o <;> first | exact h6.elim | skip
      exact .lst (SqL.of h5) (pyPs_rep hh.sub h6 e)
    · cases e
  | _, _, _, .con _, e => by rw [toPy] at e; cases e
  | _, _, _, .exn _ _, e => by rw [toPy] at e; cases e
  | _, _, _, .cls _, e => by rw [toPy] at e; cases e
theorem toPys_rep (hh : HA M Φ F θ S H) : ∀ {v : List V} {d : List Dv} {p : List PyData}, Reps M F θ v d → toPys S d = some p → DpAll M.K H v p
  | _, _, _, .nil, e => by rw [toPys] at e; cases e; exact .nil
  | _, _, _, .cons h r, e => by
    rw [toPys, Option.bind_eq_some_iff] at e
    obtain ⟨q, e1, e⟩ := e
    rw [Option.map_eq_some_iff] at e
    obtain ⟨qs, e2, rfl⟩ := e
    exact .cons (toPy_rep hh h e1) (toPys_rep hh r e2)
end
end

/-! ### operators -/
instance (i j : Int) : Decidable (CMul i j) := inferInstanceAs (Decidable (_ ∨ _))
instance (i j : Int) : Decidable (CMulW i j) := inferInstanceAs (Decidable (_ < _))
instance (i j : Int) : Decidable (CDivW i j) := inferInstanceAs (Decidable (_ ∧ _))
instance (i j : Int) : Decidable (CDivN i j) := inferInstanceAs (Decidable (_ ∧ _))
def oAdd : Dv → Dv → Sto → Re Dv
  | .int i, .int j, S => .ok (.int (i + j)) S
  | .str x, .str y, S => if x.length + y.length ≤ sizeLine then .ok (.str (x ++ y)) S else .bad
  | d, e, S => match asL S d, asL S e with
    | some l, some m => mkL (l ++ m) S
    | _, _ => .bad
def oI (f : Int → Int → Int) : Dv → Dv → Sto → Re Dv
  | .int i, .int j, S => .ok (.int (f i j)) S
  | _, _, _ => .bad
def oIc (C : Int → Int → Bool) (f : Int → Int → Int) : Dv → Dv → Sto → Re Dv
  | .int i, .int j, S => if C i j = true then .ok (.int (f i j)) S else .bad
  | _, _, _ => .bad
def oB (f : Int → Int → Bool) : Dv → Dv → Sto → Re Dv
  | .int i, .int j, S => .ok (.bl (f i j)) S
  | _, _, _ => .bad
def cMul (i j : Int) : Bool := decide (CMul i j) || decide (CMulW i j)
def cDiv (i j : Int) : Bool := decide (CDivW i j)
def cPow (i j : Int) : Bool := decide (0 ≤ j) && decide ((Builtin.Int.intBits i : Int) * j ≤ 2 ^ 27)
abbrev oSub := oI fun i j => i - j
abbrev oMul := oIc cMul fun i j => i * j
abbrev oMod := oIc (fun _ j => decide (0 < j)) fun i j => i % j
abbrev oDiv := oIc cDiv fun i j => i / j
abbrev oPow := oIc cPow fun i j => i ^ j.toNat
abbrev oLt := oB fun i j => decide (i < j)
abbrev oLe := oB fun i j => decide (i ≤ j)
abbrev oGt := oB fun i j => decide (j < i)
abbrev oGe := oB fun i j => decide (j ≤ i)
def oEqD (f : Bool → Bool) : Dv → Dv → Sto → Re Dv := fun d e S => match toPy S d, toPy S e with
  | some p, some q => if (SeqAt.shaped p && SeqAt.shaped q) = true then .ok (.bl (f (PyData.eqv p q))) S else .bad
  | _, _ => .bad
def oEqF (f : Bool → Bool) : Dv → Dv → Sto → Re Dv
  | .str x, .str y, S => .ok (.bl (f (x == y))) S
  | d, e, S => oEqD f d e S
abbrev oEq := oEqF id
abbrev oNe := oEqF not
def oIs : Dv → Dv → Sto → Re Dv
  | .con _, _, _ => .bad
  | .non, .non, S => .ok (.bl true) S
  | _, .non, S => .ok (.bl false) S
  | _, _, _ => .bad
def oIsNot : Dv → Dv → Sto → Re Dv
  | .con _, _, _ => .bad
  | .non, .non, S => .ok (.bl false) S
  | _, .non, S => .ok (.bl true) S
  | _, _, _ => .bad
/-- x in a list or tuple of data, a sign in a text -/
def inD (neg : Bool) : Dv → Dv → Sto → Re Dv
  | .str x, .str z, S => match x.cps.toList with
    | [c] => .ok (.bl (xor neg (decide (c ∈ z.cps.toList)))) S
    | _ => .bad
  | d, e, S => match toPy S d, toPy S e with
    | some p, some (.list q) => if (SeqAt.shaped p && SeqAt.shaped (.list q)) = true then .ok (.bl (xor neg (q.any fun z => PyData.eqv z p))) S else .bad
    | some p, some (.tuple q) => if (SeqAt.shaped p && SeqAt.shaped (.tuple q)) = true then .ok (.bl (xor neg (q.any fun z => PyData.eqv z p))) S else .bad
    | _, _ => .bad
abbrev oIn := inD false
abbrev oNotIn := inD true
section
variable {γ : Nat → Addr} {X : Cx} {W : WX} {N : List Str} {sc : Scope} {k : Nat} {pos : Pos}
theorem od_int {f : Value → Value → Sem Value} {g : Int → Int → Int} (h : OpR X f (rI0 fun i j => .int (g i j))) : OpD γ X W f (oI g) := .of h fun Φ F θ S d e x y σ H Q rd re hh p => by
  cases d <;> cases e <;> first | exact p.elim | skip
  exact ⟨_, _, rep_int rd, rep_int re, PostG.ok p hh (.int _)⟩
theorem od_intc {f : Value → Value → Sem Value} {C : Int → Int → Bool} {C' : Int → Int → Prop} {g : Int → Int → Int} (h : OpR X f (rI C' fun i j => .int (g i j))) (hC : ∀ i j, C i j = true → C' i j) : OpD γ X W f (oIc C g) := .of h fun Φ F θ S d e x y σ H Q rd re hh p => by
  cases d <;> cases e <;> first | exact p.elim | skip
  obtain ⟨h1, p⟩ := post_if p
  exact ⟨_, _, rep_int rd, rep_int re, hC _ _ h1, PostG.ok p hh (.int _)⟩
theorem od_bool {f : Value → Value → Sem Value} {g : Int → Int → Bool} (h : OpR X f (rI0 fun i j => .bl (g i j))) : OpD γ X W f (oB g) := .of h fun Φ F θ S d e x y σ H Q rd re hh p => by
  cases d <;> cases e <;> first | exact p.elim | skip
  exact ⟨_, _, rep_int rd, rep_int re, PostG.ok p hh (.bl _)⟩
theorem od_sub : OpD γ X W (binaryOp .Sub) oSub := od_int op_sub
theorem od_mod : OpD γ X W (binaryOp .Mod) oMod := od_intc op_mod fun i j h => of_decide_eq_true h
theorem od_div : OpD γ X W (binaryOp .FloorDiv) oDiv := od_intc op_fdivW fun i j h => of_decide_eq_true h
theorem op_mulA : OpR X (binaryOp .Mult) (rI (fun i j => cMul i j = true) fun i j => .int (i * j)) := opI fun _ _ _ _ _ _ _ hc q => mul_int q (by
  rcases Bool.or_eq_true_iff.mp hc with z | z
  · exact CMul.ok (of_decide_eq_true z)
  · exact CMulW.ok (of_decide_eq_true z))
theorem od_mul : OpD γ X W (binaryOp .Mult) oMul := od_intc op_mulA fun i j h => h
theorem op_powA : OpR X (binaryOp .Pow) (rI (fun i j => cPow i j = true) fun i j => .int (i ^ j.toNat)) := opI fun _ _ _ _ _ _ _ hc q => by
  obtain ⟨a, b⟩ := Bool.and_eq_true_iff.mp hc
  exact pow_int (of_decide_eq_true a) (of_decide_eq_true b) q
theorem od_pow : OpD γ X W (binaryOp .Pow) oPow := od_intc op_powA fun i j h => h
theorem od_lt : OpD γ X W (compareOp .Lt) oLt := od_bool op_lt
theorem od_le : OpD γ X W (compareOp .LtE) oLe := od_bool op_le
theorem od_gt : OpD γ X W (compareOp .Gt) oGt := od_bool op_gt
theorem od_ge : OpD γ X W (compareOp .GtE) oGe := od_bool op_ge
theorem od_add : OpD γ X W (binaryOp .Add) oAdd := by
  intro pins s σ H x y v u Q Φ F θ S d e I rx ry rd re hh p
  have lists : ∀ l m, asL S d = some l → asL S e = some m → PostG ⟨X.K, γ⟩ Φ W σ F θ (Rep ⟨X.K, γ⟩) (mkL (l ++ m) S) Q → wpAny (model X.prog X.w) X.A (binaryOp .Add v u) (EP X pins σ Q) X.xe s := fun l m h1 h2 p => by
    obtain ⟨a, xs, rfl, e1, r1⟩ := asL_rep rd hh h1
    obtain ⟨b, ys, rfl, e2, r2⟩ := asL_rep re hh h2
    obtain ⟨hl, q⟩ := newL hh (r1.append r2) p
    exact op_cat pins s σ H _ _ v u Q I rx ry ⟨a, b, xs, ys, rfl, rfl, e1, e2, by rw [← List.length_append]; exact hl, q⟩
  have other : PostG ⟨X.K, γ⟩ Φ W σ F θ (Rep ⟨X.K, γ⟩) (match asL S d, asL S e with | some l, some m => mkL (l ++ m) S | _, _ => .bad) Q → wpAny (model X.prog X.w) X.A (binaryOp .Add v u) (EP X pins σ Q) X.xe s := fun p => by
    split at p
    · exact lists _ _ (by assumption) (by assumption) p
    · exact p.elim
  cases d with
  | int i =>
    cases e with
    | int j => exact op_add pins s σ H x y v u Q I rx ry ⟨_, _, rep_int rd, rep_int re, PostG.ok p hh (.int _)⟩
    | _ => exact other p
  | str i =>
    cases e with
    | str j =>
      obtain ⟨h1, p⟩ := post_if p
      exact op_add_str pins s σ H x y v u Q I rx ry ⟨_, _, rep_str rd, rep_str re, h1, PostG.ok p hh (.str _)⟩
    | _ => exact other p
  | _ => exact other p
theorem eq_post {Φ : Hp} {σ : L2.St} {F : Hp} {θ : List Addr} {S : Sto} {d e : Dv} {f : PyData → PyData → Bool} {x y : V} {H : Hp} {Q : VK} (rd : Rep ⟨X.K, γ⟩ F θ x d) (re : Rep ⟨X.K, γ⟩ F θ y e) (hh : HA ⟨X.K, γ⟩ Φ F θ S H)
    (p : PostG ⟨X.K, γ⟩ Φ W σ F θ (Rep ⟨X.K, γ⟩) (match toPy S d, toPy S e with
      | some p, some q => if (SeqAt.shaped p && SeqAt.shaped q) = true then .ok (.bl (f p q)) S else .bad
      | _, _ => .bad) Q) : ∃ d e, Dp X.K H x d ∧ Dp X.K H y e ∧ SeqAt.shaped d = true ∧ SeqAt.shaped e = true ∧ Q (.bl (f d e)) H := by
  split at p
  · rename_i a b h1 h2
    obtain ⟨h, p⟩ := post_if p
    obtain ⟨s1, s2⟩ := Bool.and_eq_true_iff.mp h
    exact ⟨a, b, toPy_rep hh rd h1, toPy_rep hh re h2, s1, s2, PostG.ok p hh (.bl _)⟩
  · exact p.elim
theorem eqF_post {f : Bool → Bool} {Φ : Hp} {σ : L2.St} {F : Hp} {θ : List Addr} {S : Sto} {d e : Dv} {x y : V} {H : Hp} {Q : VK} (rd : Rep ⟨X.K, γ⟩ F θ x d) (re : Rep ⟨X.K, γ⟩ F θ y e) (hh : HA ⟨X.K, γ⟩ Φ F θ S H) (p : PostG ⟨X.K, γ⟩ Φ W σ F θ (Rep ⟨X.K, γ⟩) (oEqF f d e S) Q) :
    (∃ a b, x = .str a ∧ y = .str b ∧ Q (.bl (f (a == b))) H) ∨ ∃ d e, Dp X.K H x d ∧ Dp X.K H y e ∧ SeqAt.shaped d = true ∧ SeqAt.shaped e = true ∧ Q (.bl (f (PyData.eqv d e))) H := by
  unfold oEqF at p
  split at p
  · exact .inl ⟨_, _, rep_str rd, rep_str re, p.ok hh (.bl _)⟩
  · exact .inr (eq_post (f := fun a b => f (PyData.eqv a b)) rd re hh p)
theorem od_eq (c : Ctx X W N sc k) : OpD γ X W (compareOp .Eq) oEq := .of (op_eq.or (op_eqD c.hr.units)) fun Φ F θ S d e x y σ H Q rd re hh p => by
  rcases eqF_post rd re hh p with ⟨a, b, rfl, rfl, q⟩ | q
  · exact .inl ⟨rfl, by rw [dec_str]; exact q⟩
  · exact .inr q
theorem od_ne (c : Ctx X W N sc k) : OpD γ X W (compareOp .NotEq) oNe := .of (op_ne.or (op_neD c.hr.units)) fun Φ F θ S d e x y σ H Q rd re hh p => by
  rcases eqF_post rd re hh p with ⟨a, b, rfl, rfl, q⟩ | q
  · exact .inl ⟨rfl, by rw [dec_str]; exact q⟩
  · exact .inr q
theorem od_is : OpD γ X W (compareOp .Is) oIs := .of op_isN fun Φ F θ S d e x y σ H Q rd re hh p => by
  cases e <;> first | (cases d <;> exact p.elim) | skip
  refine ⟨rep_non re, ?_⟩
  cases rd <;> first | exact p.elim | exact PostG.ok p hh (.bl _)
theorem od_isNot : OpD γ X W (compareOp .IsNot) oIsNot := .of op_notN fun Φ F θ S d e x y σ H Q rd re hh p => by
  cases e <;> first | (cases d <;> exact p.elim) | skip
  refine ⟨rep_non re, ?_⟩
  cases rd <;> first | exact p.elim | exact PostG.ok p hh (.bl _)
end
end DL

/-! The D layer, 7: in, subscripts, slices, chains; methods of lists; built-ins by name. -/
namespace DL
open PySem PySem.Spec PyProof.Rows L2
section
variable {γ : Nat → Addr} {X : Cx} {W : WX} {N : List Str} {sc : Scope} {k : Nat} {pos : Pos}

/-! ### in -/
def rInT (K : PySem.W.Frag) : R2 := fun x y H Q => ∃ d ds, Dp K H x d ∧ Dp K H y (.tuple ds) ∧ SeqAt.shaped d = true ∧ SeqAt.shaped (.tuple ds) = true ∧ Q (.bl (ds.any fun z => PyData.eqv z d)) H
def rNotInT (K : PySem.W.Frag) : R2 := fun x y H Q => ∃ d ds, Dp K H x d ∧ Dp K H y (.tuple ds) ∧ SeqAt.shaped d = true ∧ SeqAt.shaped (.tuple ds) = true ∧ Q (.bl (!ds.any fun z => PyData.eqv z d)) H
theorem room_in {A : Around} {d : PyData} {ds : List PyData} (sd : SeqAt.shaped d = true) (hu : A.units + 65 < cLine) : A.units + 1 + min (PyData.depthAll ds) d.depth < cLine := by
  have h1 := SeqAt.depth_of_shaped sd
  have h2 : min (PyData.depthAll ds) d.depth ≤ d.depth := Nat.min_le_right _ _
  omega
theorem canT {ds : List PyData} (se : SeqAt.shaped (.tuple ds) = true) : PyData.canLayAll0 ds = true := by
  have h := SeqAt.canLay_of_shaped se
  simpa only [PyData.canLay0] using h
theorem op_inT (hu : X.A.units + 65 < cLine) : OpR X (compareOp .In) (rInT X.K) := by
  intro pins s σ H x y v u Q I rx ry h
  obtain ⟨d, ds, hd, he, sd, se, q⟩ := h
  obtain ⟨as, r1⟩ := Dp.reads I d x v hd rx
  obtain ⟨bs, r2⟩ := Dp.reads I (.tuple ds) y u he ry
  exact SeqAt.in_tuple_reads r2 r1 (canT se) (SeqAt.canLay_of_shaped sd) (room_in sd hu) ⟨.bl _, H, I, rfl, q⟩
theorem op_notInT (hu : X.A.units + 65 < cLine) : OpR X (compareOp .NotIn) (rNotInT X.K) := by
  intro pins s σ H x y v u Q I rx ry h
  obtain ⟨d, ds, hd, he, sd, se, q⟩ := h
  obtain ⟨as, r1⟩ := Dp.reads I d x v hd rx
  obtain ⟨bs, r2⟩ := Dp.reads I (.tuple ds) y u he ry
  exact SeqAt.notIn_tuple_reads r2 r1 (canT se) (SeqAt.canLay_of_shaped sd) (room_in sd hu) ⟨.bl _, H, I, rfl, q⟩
theorem units65 (c : Ctx X W N sc k) : X.A.units + 65 < cLine := by have := c.hr.un; omega
theorem inD_post {neg : Bool} {Φ : Hp} {σ : L2.St} {F : Hp} {θ : List Addr} {S : Sto} {d e : Dv} {x y : V} {H : Hp} {Q : VK} (rd : Rep ⟨X.K, γ⟩ F θ x d) (re : Rep ⟨X.K, γ⟩ F θ y e) (hh : HA ⟨X.K, γ⟩ Φ F θ S H)
    (p : PostG ⟨X.K, γ⟩ Φ W σ F θ (Rep ⟨X.K, γ⟩) (inD neg d e S) Q) :
    (∃ (c : Nat) (z : Str), x = .str ⟨#[c]⟩ ∧ y = .str z ∧ Q (.bl (xor neg (decide (c ∈ z.cps.toList)))) H) ∨
    (∃ d ds, Dp X.K H x d ∧ Dp X.K H y (.list ds) ∧ SeqAt.shaped d = true ∧ SeqAt.shaped (.list ds) = true ∧ Q (.bl (xor neg (ds.any fun z => PyData.eqv z d))) H) ∨
    (∃ d ds, Dp X.K H x d ∧ Dp X.K H y (.tuple ds) ∧ SeqAt.shaped d = true ∧ SeqAt.shaped (.tuple ds) = true ∧ Q (.bl (xor neg (ds.any fun z => PyData.eqv z d))) H) := by
  unfold inD at p
  split at p
  · rename_i a z
    split at p
    · rename_i c hc
      refine .inl ⟨c, z, ?_, rep_str re, PostG.ok p hh (.bl _)⟩
      rw [rep_str rd]
      congr 1
      obtain ⟨⟨l⟩⟩ := a
      have : l = [c] := hc
      rw [this]
    · exact p.elim
  · split at p
    · rename_i a b h1 h2
      obtain ⟨h, p⟩ := post_if p
      obtain ⟨s1, s2⟩ := Bool.and_eq_true_iff.mp h
      exact .inr (.inl ⟨a, b, toPy_rep hh rd h1, toPy_rep hh re h2, s1, s2, PostG.ok p hh (.bl _)⟩)
    · rename_i a b h1 h2
      obtain ⟨h, p⟩ := post_if p
      obtain ⟨s1, s2⟩ := Bool.and_eq_true_iff.mp h
      exact .inr (.inr ⟨a, b, toPy_rep hh rd h1, toPy_rep hh re h2, s1, s2, PostG.ok p hh (.bl _)⟩)
    · exact p.elim
theorem od_in (c : Ctx X W N sc k) : OpD γ X W (compareOp .In) oIn := .of (op_in_sign.or ((op_inD (units65 c)).or (op_inT (units65 c)))) fun Φ F θ S d e x y σ H Q rd re hh p => by
  rcases inD_post rd re hh p with ⟨c, z, h1, h2, q⟩ | ⟨d, ds, h1, h2, h3, h4, q⟩ | ⟨d, ds, h1, h2, h3, h4, q⟩
  · exact .inl ⟨c, z, h1, h2, by simpa using q⟩
  · exact .inr (.inl ⟨d, ds, h1, h2, h3, h4, by simpa using q⟩)
  · exact .inr (.inr ⟨d, ds, h1, h2, h3, h4, by simpa using q⟩)
theorem od_notIn (c : Ctx X W N sc k) : OpD γ X W (compareOp .NotIn) oNotIn := .of (op_notIn_sign.or ((op_notInD (units65 c)).or (op_notInT (units65 c)))) fun Φ F θ S d e x y σ H Q rd re hh p => by
  rcases inD_post rd re hh p with ⟨c, z, h1, h2, q⟩ | ⟨d, ds, h1, h2, h3, h4, q⟩ | ⟨d, ds, h1, h2, h3, h4, q⟩
  · exact .inl ⟨c, z, h1, h2, by simpa using q⟩
  · exact .inr (.inl ⟨d, ds, h1, h2, h3, h4, by simpa using q⟩)
  · exact .inr (.inr ⟨d, ds, h1, h2, h3, h4, by simpa using q⟩)

/-! ### unary, chains -/
def uNeg : Dv → Sto → Re Dv
  | .int i, S => .ok (.int (-i)) S
  | _, _ => .bad
theorem ud_neg : UnD γ X W (unaryOp .USub) uNeg := by
  intro pins s σ H x v Q Φ F θ S d I rx rd hh p
  cases d <;> first | exact p.elim | skip
  exact un_neg pins s σ H x v Q I rx ⟨_, rep_int rd, PostG.ok p hh (.int _)⟩
def eCh (f g : Int → Int → Bool) (a b c : Ex) : Ex := fun ρ S => (a ρ S).bind fun x S1 => (b ρ S1).bind fun y S2 => match x, y with
  | .int i, .int j => if f i j = true then (c ρ S2).bind fun z S3 => match z with
      | .int m => .ok (.bl (g j m)) S3
      | _ => .bad
    else .ok (.bl false) S2
  | _, _ => .bad
theorem de_chain {op op' : CmpOp} {f g : Int → Int → Bool} {a b c' : Expr} {fa fb fc : Ex} (ho : OpR X (compareOp op) (rI0 fun i j => .bl (f i j))) (ho' : OpR X (compareOp op') (rI0 fun i j => .bl (g i j)))
    (ha : DE γ X W a fa) (hb : DE γ X W b fb) (hc : DE γ X W c' fc) (hm : lastMarks [op, op'] [b, c'] = false := by with_unfolding_all rfl) : DE γ X W (.Compare a [op, op'] [b, c'] pos) (eCh f g fa fb fc) :=
  PE.weak (pe_chain ho ho' ha hb hc hm) fun σ H Q ⟨Φ, ρ, F, θ, S, ea, hh, p⟩ => ⟨Φ, ρ, F, θ, S, ea, hh, PostG.seq p fun d S' x F' θ' H' _ e h' r p' =>
    ⟨Φ, ρ, F', θ', S', ea.ext e, h', PostG.seq p' fun d2 S2 y F2 θ2 H2 _ e2 h2 r2 p2 => by
      obtain ⟨i, rfl⟩ : ∃ i, d = .int i := by cases d <;> first | exact ⟨_, rfl⟩ | (cases d2 <;> exact p2.elim)
      obtain ⟨j, rfl⟩ : ∃ j, d2 = .int j := by cases d2 <;> first | exact ⟨_, rfl⟩ | exact p2.elim
      refine ⟨i, j, rep_int r, rep_int r2, f i j, rfl, ?_⟩
      by_cases h : f i j = true
      · simp only [h, if_true] at p2 ⊢
        exact ⟨Φ, ρ, F2, θ2, S2, (ea.ext e).ext e2, h2, PostG.seq p2 fun d3 S3 z F3 θ3 H3 _ e3 h3 r3 p3 => by
          cases d3 <;> first | exact p3.elim | skip
          exact ⟨j, _, rep_int r2, rep_int r3, PostG.ok p3 h3 (.bl _)⟩⟩
      · simp only [h, if_false] at p2 ⊢
        exact PostG.ok p2 h2 (.bl _)⟩⟩
theorem dt_chain {op op' : CmpOp} {f g : Int → Int → Bool} {a b c' : Expr} {fa fb fc : Ex} (ho : OpR X (compareOp op) (rI0 fun i j => .bl (f i j))) (ho' : OpR X (compareOp op') (rI0 fun i j => .bl (g i j)))
    (ha : DE γ X W a fa) (hb : DE γ X W b fb) (hc : DE γ X W c' fc) (hm : lastMarks [op, op'] [b, c'] = false := by with_unfolding_all rfl) : DTt γ X W (.Compare a [op, op'] [b, c'] pos) (tV (eCh f g fa fb fc)) :=
  PT.weak (pt_chain ho ho' ha hb hc hm) fun σ H Q ⟨Φ, ρ, F, θ, S, ea, hh, p⟩ => by
    have q : dG ⟨X.K, γ⟩ W (Rep ⟨X.K, γ⟩) (eCh f g fa fb fc) σ H (fun x H' => ∃ c, x = .bl c ∧ Q c H') := ⟨Φ, ρ, F, θ, S, ea, hh, tV_post p⟩
    obtain ⟨Φ, ρ, F, θ, S, ea, hh, p⟩ := q
    exact ⟨Φ, ρ, F, θ, S, ea, hh, PostG.seq p fun d S' x F' θ' H' _ e h' r p' =>
      ⟨Φ, ρ, F', θ', S', ea.ext e, h', PostG.seq p' fun d2 S2 y F2 θ2 H2 _ e2 h2 r2 p2 => by
        obtain ⟨i, rfl⟩ : ∃ i, d = .int i := by cases d <;> first | exact ⟨_, rfl⟩ | (cases d2 <;> exact p2.elim)
        obtain ⟨j, rfl⟩ : ∃ j, d2 = .int j := by cases d2 <;> first | exact ⟨_, rfl⟩ | exact p2.elim
        refine ⟨i, j, rep_int r, rep_int r2, f i j, rfl, ?_⟩
        by_cases h : f i j = true
        · simp only [h, if_true] at p2 ⊢
          exact ⟨Φ, ρ, F2, θ2, S2, (ea.ext e).ext e2, h2, PostG.seq p2 fun d3 S3 z F3 θ3 H3 _ e3 h3 r3 p3 => by
            cases d3 <;> first | exact p3.elim | skip
            exact ⟨j, _, rep_int r2, rep_int r3, PostG.ok p3 h3 (.bl _)⟩⟩
        · simp only [h, if_false] at p2 ⊢
          exact PostG.ok p2 h2 (.bl _)⟩⟩

/-! ### subscripts -/
def oIx : Dv → Dv → Sto → Re Dv
  | .str z, .int i, S => if z.length ≤ sizeLine then (match atI z.cps.toList i with
    | some c => .ok (.str ⟨#[c]⟩) S
    | none => .bad) else .bad
  | d, .int i, S => match asQ S d with
    | some l => match atI l i with
      | some x => .ok x S
      | none => .bad
    | none => .bad
  | _, _, _ => .bad
theorem atI_reps {M : Ev} {F : Hp} {θ : List Addr} {xs : List V} {l : List Dv} {i : Int} {d : Dv} (r : Reps M F θ xs l) (h : atI l i = some d) : ∃ v, atI xs i = some v ∧ Rep M F θ v d := by
  unfold atI at h ⊢
  rw [r.length]
  cases e : ixN l.length i with
  | none => rw [e] at h; cases h
  | some j =>
    rw [e] at h
    obtain ⟨v, h1, h2⟩ := r.get (i := j) h
    exact ⟨v, h1, h2⟩
theorem ix_post {Φ : Hp} {σ : L2.St} {F : Hp} {θ : List Addr} {S : Sto} {d e : Dv} {x y : V} {H : Hp} {Q : VK} (rd : Rep ⟨X.K, γ⟩ F θ x d) (re : Rep ⟨X.K, γ⟩ F θ y e) (hh : HA ⟨X.K, γ⟩ Φ F θ S H) (p : PostG ⟨X.K, γ⟩ Φ W σ F θ (Rep ⟨X.K, γ⟩) (oIx d e S) Q) : rIx X.K x y H Q := by
  cases e with
  | int i =>
    have other : PostG ⟨X.K, γ⟩ Φ W σ F θ (Rep ⟨X.K, γ⟩) (match asQ S d with | some l => (match atI l i with | some x => Re.ok x S | none => .bad) | none => .bad) Q → rIx X.K x y H Q := fun p => by
      split at p
      · rename_i l hl
        split at p
        · rename_i z hz
          obtain ⟨a, xs, rfl, hq, rs⟩ := asQ_rep rd hh hl
          obtain ⟨v, h1, h2⟩ := atI_reps rs hz
          rcases hq with hq | hq
          · exact .inl ⟨a, xs, i, v, rfl, rep_int re, hq, h1, PostG.ok p hh h2⟩
          · exact .inr (.inl ⟨a, xs, i, v, rfl, rep_int re, hq, h1, PostG.ok p hh h2⟩)
        · exact p.elim
      · exact p.elim
    cases d with
    | str z =>
      obtain ⟨h1, p⟩ := post_if p
      split at p
      · rename_i c hc
        exact .inr (.inr ⟨z, i, c, rep_str rd, rep_int re, h1, hc, PostG.ok p hh (.str _)⟩)
      · exact p.elim
    | _ => exact other p
  | _ => cases d <;> exact p.elim
theorem de_ix {a b : Expr} {fa fb : Ex} (ha : DE γ X W a fa) (hb : DE γ X W b fb) (hs : PlainIx b := by intro _ _; rfl) : DE γ X W (.Subscript a b pos) (e2 oIx fa fb) :=
  PE.weak (pe_ix ix_seq ha hb hs) fun σ H Q ⟨Φ, ρ, F, θ, S, ea, hh, p⟩ => ⟨Φ, ρ, F, θ, S, ea, hh, PostG.seq p fun d S' x F' θ' H' _ e h' r p' =>
    ⟨Φ, ρ, F', θ', S', ea.ext e, h', PostG.seq p' fun d2 S2 y F2 θ2 H2 _ e2 h2 r2 p2 => ix_post (r.ext e2) r2 h2 p2⟩⟩

/-! ### slices -/
abbrev Xo := En → Sto → Re (Option Int)
abbrev DO (γ : Nat → Addr) (X : Cx) (W : WX) (e : Option Expr) (f : Xo) : Prop := PO X e (dG ⟨X.K, γ⟩ W (fun _ _ b a => b = a) f)
theorem PO.weak {e : Option Expr} {t u : TO} (h : PO X e t) (kk : ∀ σ H Q, u σ H Q → t σ H Q) : PO X e u := ⟨fun pins s σ H Q I q => h.run pins s σ H Q I (kk σ H Q q)⟩
def xNone : Xo := fun _ S => .ok none S
def xSome (f : Ex) : Xo := fun ρ S => (f ρ S).bind fun d S' => match d with
  | .int i => .ok (some i) S'
  | _ => .bad
theorem do_none : DO γ X W none xNone := PO.weak po_none fun σ H Q ⟨Φ, ρ, F, θ, S, ea, hh, p⟩ => PostG.ok p hh rfl
theorem do_some {e : Expr} {f : Ex} (h : DE γ X W e f) : DO γ X W (some e) (xSome f) := PO.weak (po_some h) fun σ H Q ⟨Φ, ρ, F, θ, S, ea, hh, p⟩ => ⟨Φ, ρ, F, θ, S, ea, hh, PostG.seq p fun d S' x F' θ' H' _ e h' r p' => by
  cases d <;> first | exact p'.elim | skip
  exact ⟨_, rep_int r, PostG.ok p' h' rfl⟩⟩
def cutD {α : Type} (xs : List α) (lo hi : Option Int) : List α := (xs.drop (HT.sIx xs.length 0 lo)).take (HT.sIx xs.length xs.length hi - HT.sIx xs.length 0 lo)
def oSl (d : Dv) (lo hi : Option Int) (S : Sto) : Re Dv := match d with
  | .str z => if z.length ≤ sizeLine then .ok (.str (cutS z lo hi)) S else .bad
  | .tup l => .ok (.tup (cutD l lo hi)) S
  | d => match asR S d with
    | some l => .ok (.lst (cutD l lo hi)) S
    | none => .bad
def eSl (a : Ex) (lo hi : Xo) : Ex := fun ρ S => (a ρ S).bind fun x S1 => (lo ρ S1).bind fun l S2 => (hi ρ S2).bind fun u S3 => oSl x l u S3
theorem sl_post {Φ : Hp} {σ : L2.St} {F : Hp} {θ : List Addr} {S : Sto} {d : Dv} {lo hi : Option Int} {x : V} {H : Hp} {Q : VK} (rd : Rep ⟨X.K, γ⟩ F θ x d) (hh : HA ⟨X.K, γ⟩ Φ F θ S H) (p : PostG ⟨X.K, γ⟩ Φ W σ F θ (Rep ⟨X.K, γ⟩) (oSl d lo hi S) Q) :
    rSlL X.K x lo hi H Q ∨ rSlA X.K x lo hi H Q ∨ rSlS x lo hi H Q := by
  have cut : ∀ {xs : List V} {l : List Dv}, Reps ⟨X.K, γ⟩ F θ xs l → Reps ⟨X.K, γ⟩ F θ (cutV xs lo hi) (cutD l lo hi) := fun {xs l} r => by
    unfold cutV cutD
    rw [r.length]
    exact Reps.take _ (Reps.drop _ r)
  have other : PostG ⟨X.K, γ⟩ Φ W σ F θ (Rep ⟨X.K, γ⟩) (match asR S d with | some l => Re.ok (.lst (cutD l lo hi)) S | none => .bad) Q → rSlL X.K x lo hi H Q := fun p => by
    split at p
    · rename_i l hl
      obtain ⟨a, xs, rfl, hq, rs⟩ := asR_rep rd hh hl
      refine ⟨a, xs, rfl, hq, fun b hb => ?_⟩
      obtain ⟨e, h'⟩ := hh.alloc (.lst (cutV xs lo hi)) hb
      exact p _ _ _ _ e h' (.lst upd_same ((cut rs).ext e))
    · exact p.elim
  cases d with
  | str z =>
    obtain ⟨h1, p⟩ := post_if p
    exact .inr (.inr ⟨z, rep_str rd, h1, PostG.ok p hh (.str _)⟩)
  | tup l =>
    obtain ⟨a, xs, rfl, hq, rs⟩ := asT_rep rd hh rfl
    refine .inr (.inl ⟨a, xs, rfl, hq, fun hw => ?_, fun _ b hb => ?_⟩)
    · refine PostG.ok p hh ?_
      have e : cutD l lo hi = l := by
        unfold cutD
        rw [← rs.length, hw.1, hw.2]
        simp [rs.length]
      rw [e]
      exact rd
    · obtain ⟨e, h'⟩ := hh.alloc (.tup (cutV xs lo hi)) hb
      exact p _ _ _ _ e h' (.tup upd_same ((cut rs).ext e))
  | _ => exact .inl (other p)
theorem de_slice {a : Expr} {lo hi : Option Expr} {fa : Ex} {fl fh : Xo} {p2 : Pos} (ha : DE γ X W a fa) (hl : DO γ X W lo fl) (hh : DO γ X W hi fh) : DE γ X W (.Subscript a (.Slice lo hi none p2) pos) (eSl fa fl fh) :=
  PE.weak (pe_slice (sl_list.or (sl_tupA.or sl_str)) ha hl hh) fun σ H Q ⟨Φ, ρ, F, θ, S, ea, hh, p⟩ => ⟨Φ, ρ, F, θ, S, ea, hh, PostG.seq p fun d S' x F' θ' H' _ e h' r p' =>
    ⟨Φ, ρ, F', θ', S', ea.ext e, h', PostG.seq p' fun l S2 y F2 θ2 H2 _ e2 h2 r2 p2 =>
      ⟨Φ, ρ, F2, θ2, S2, (ea.ext e).ext e2, h2, PostG.seq p2 fun u S3 z F3 θ3 H3 _ e3 h3 r3 p3 => by
        cases r2
        cases r3
        exact sl_post ((r.ext e2).ext e3) h3 p3⟩⟩⟩

/-! ### o[i] = v -/
/-- a store into a list in a cell -/
def gIx (o i : Ex) : Gt := fun d ρ S => match o ρ S with
  | .ok (.cell k) S1 => match i ρ S1 with
    | .ok (.int j) S2 => match S2[k]? with
      | some (.lst l) => match ixN l.length j with
        | some m => some (ρ, S2.set k (.lst (l.set m d)))
        | none => none
      | _ => none
    | _ => none
  | _ => none
theorem dg_ix {o i : Expr} {fo fi : Ex} (ho : DE γ X W o fo) (hi : DE γ X W i fi) (ha : ∀ v, assign (.Subscript o i pos) X.env v = (do
      let ov ← holding [v] (eval o X.env)
      let iv ← holding [v, ov] (eval i X.env)
      standAt pos
      holding [v, ov, iv] (setItem ov iv v)
      release [v, ov, iv] []) := by intro _; rfl) : DG γ X (.Subscript o i pos) (gIx fo fi) :=
  PG.weak (pg_sub ho hi set_list ha) fun v σ H Q ⟨Φ, ρ, F, θ, S, d, ea, hh, r, p⟩ => by
    unfold gIx at p
    split at p
    · rename_i kc S1 e1
      split at p
      · rename_i j S2 e2
        split at p
        · rename_i l hk
          split at p
          · rename_i m hm
            refine ⟨Φ, ρ, F, θ, S, ea, hh, ?_⟩
            rw [e1]
            intro vo F1 θ1 H1 g1 h1 r1
            refine ⟨Φ, ρ, F1, θ1, S1, ea.ext g1, h1, ?_⟩
            rw [e2]
            intro vi F2 θ2 H2 g2 h2 r2
            have r1' := r1.ext g2
            cases r1' with
            | @cell _ a ha =>
              obtain ⟨_, ob, h5, h6⟩ := h2.live _ _ _ ha hk (by intro z; cases z)
              cases ob <;> first | exact h6.elim | skip
              rename_i xs
              have h6 : Reps ⟨X.K, γ⟩ F2 θ2 xs l := h6
              refine ⟨a, xs, j, m, rfl, rep_int r2, h5, by rw [h6.length]; exact hm, ?_⟩
              exact p σ F2 θ2 _ (g1.trans g2) ((ea.ext g1).ext g2) (h2.setCell ha hk (by intro z; cases z) (o' := .lst (xs.set m v)) (ob' := .lst (l.set m d)) (Reps.set ((r.ext g1).ext g2) m h6))
          · exact p.elim
        · exact p.elim
      · exact p.elim
    · exact p.elim
end
end DL

/-! The D layer, 8: built-ins called by name; methods of lists. -/
namespace DL
open PySem PySem.Spec PyProof.Rows L2
section
variable {γ : Nat → Addr} {X : Cx} {W : WX} {N : List Str} {sc : Scope} {k : Nat} {pos : Pos}

/-- a built-in's call behaves as g -/
def BuD (γ : Nat → Addr) (X : Cx) (W : WX) (u : Value) (g : Fn) : Prop :=
  ∀ (pins : List (Addr × Obj)) (s : Shared) (σ : L2.St) (H : Hp) (vs : List V) (us : List Value) (Q : VK) (Φ F : Hp) (θ : List Addr) (S : Sto) (ds : List Dv), Inv X pins σ H s → Vals vs us → Reps ⟨X.K, γ⟩ F θ vs ds → HA ⟨X.K, γ⟩ Φ F θ S H →
    PostG ⟨X.K, γ⟩ Φ W σ F θ (Rep ⟨X.K, γ⟩) (g ds S) Q → wpAny (model X.prog X.w) X.A (call u us) (EP X pins σ Q) X.xe s
theorem BuD.of {u : Value} {g : Fn} {r : List V → Hp → VK → Prop} (h : CallR X u r) (kr : ∀ Φ F θ S ds vs σ H Q, Reps ⟨X.K, γ⟩ F θ vs ds → HA ⟨X.K, γ⟩ Φ F θ S H → PostG ⟨X.K, γ⟩ Φ W σ F θ (Rep ⟨X.K, γ⟩) (g ds S) Q → r vs H Q) : BuD γ X W u g :=
  fun pins s σ H vs us Q Φ F θ S ds I rv rd hh p => h pins s σ H vs us Q I rv (kr Φ F θ S ds vs σ H Q rd hh p)
theorem de_bu {id : String} {x : Str} {g : Fn} {e : Expr} {es : List Expr} {fa : Xs} {p : Pos} (hc : BuD γ X W (.builtin id) g) (hg : sc.names.lookup x = some .globalImplicit) (c : Ctx X W N sc k) (hm : X.mg x = none) (hv : bootBuiltins x = some (.builtin id)) (ha : DAs γ X W (e :: es) fa)
    (hn : x ≠ "__name__" := by decide) (hdb : (x == ("__debug__" : Str)) = false := by decide) (he : starEach (e :: es) X.env = (false, eval e X.env) :: starEach es X.env := by rfl) (hpl : (backTo pos (starEach es X.env)).any (·.1) = false := by rfl) :
    DE γ X W (.Call (.Name x p) (e :: es) [] pos) (eN g fa) := by
  refine ⟨fun pins s σ H Q I ⟨Φ, ρ, F, θ, S, ea, hh, p⟩ => ?_⟩
  refine wpAny_Call_Name_kw (ld_blt I (show X.env.scope.names.lookup x = some .globalImplicit by rw [c.hsc]; exact hg) hm hv ?_ hn hdb)
  refine PyProof.Rows.callWith_builtin1 (thn (ha.run pos pins s σ H (fun vs H' => ∃ F θ S ds, Reps ⟨X.K, γ⟩ F θ vs ds ∧ HA ⟨X.K, γ⟩ Φ F θ S H' ∧ PostG ⟨X.K, γ⟩ Φ W σ F θ (Rep ⟨X.K, γ⟩) (g ds S) Q) I ?_) fun us s1 ⟨vs, H1, I1, r1, F1, θ1, S1, ds, rd, h1, p1⟩ => hc pins s1 σ H1 vs us Q Φ F1 θ1 S1 ds I1 r1 rd h1 p1) he hpl
  exact ⟨Φ, ρ, F, θ, S, ea, hh, PostG.seq p fun ds S' vs F' θ' H' _ e h' r p' => ⟨F', θ', S', ds, r, h', p'⟩⟩
theorem de_ty {T : String} {x : Str} {g : Fn} {e : Expr} {es : List Expr} {fa : Xs} {p : Pos} (hc : BuD γ X W (.type T) g) (hg : sc.names.lookup x = some .globalImplicit) (c : Ctx X W N sc k) (hm : X.mg x = none) (hv : bootBuiltins x = some (.type T)) (ha : DAs γ X W (e :: es) fa)
    (hn : x ≠ "__name__" := by decide) (hdb : (x == ("__debug__" : Str)) = false := by decide) (he : starEach (e :: es) X.env = (false, eval e X.env) :: starEach es X.env := by rfl) (hpl : (backTo pos (starEach es X.env)).any (·.1) = false := by rfl) :
    DE γ X W (.Call (.Name x p) (e :: es) [] pos) (eN g fa) := by
  refine ⟨fun pins s σ H Q I ⟨Φ, ρ, F, θ, S, ea, hh, p⟩ => ?_⟩
  refine wpAny_Call_Name_kw (ld_blt I (show X.env.scope.names.lookup x = some .globalImplicit by rw [c.hsc]; exact hg) hm hv ?_ hn hdb)
  refine PyProof.Rows.callWith_type1 (thn (ha.run pos pins s σ H (fun vs H' => ∃ F θ S ds, Reps ⟨X.K, γ⟩ F θ vs ds ∧ HA ⟨X.K, γ⟩ Φ F θ S H' ∧ PostG ⟨X.K, γ⟩ Φ W σ F θ (Rep ⟨X.K, γ⟩) (g ds S) Q) I ?_) fun us s1 ⟨vs, H1, I1, r1, F1, θ1, S1, ds, rd, h1, p1⟩ => hc pins s1 σ H1 vs us Q Φ F1 θ1 S1 ds I1 r1 rd h1 p1) he hpl
  exact ⟨Φ, ρ, F, θ, S, ea, hh, PostG.seq p fun ds S' vs F' θ' H' _ e h' r p' => ⟨F', θ', S', ds, r, h', p'⟩⟩

/-! ### len, int, abs, min, max, sum, any, all -/
def bLen : Fn := fun ds S => match ds with
  | [.str z] => if z.length ≤ sizeLine then .ok (.int z.length) S else .bad
  | [d] => match asQ S d with
    | some l => .ok (.int l.length) S
    | none => .bad
  | _ => .bad
theorem bu_len : BuD γ X W (.builtin "len") bLen := .of (call_len_seq.or call_len_str) fun Φ F θ S ds vs σ H Q rd hh p => by
  match ds, rd, p with
  | [], rd, p => exact p.elim
  | _ :: _ :: _, rd, p =>
    rename_i a b l
    cases a <;> exact p.elim
  | [d], rd, p =>
    obtain ⟨v, rfl, r⟩ := reps1 rd
    have other : PostG ⟨X.K, γ⟩ Φ W σ F θ (Rep ⟨X.K, γ⟩) (match asQ S d with | some l => Re.ok (.int l.length) S | none => .bad) Q → ∃ p ys, [v] = [V.ref p] ∧ (SqL X.K H p ys ∨ SqT X.K H p ys) ∧ Q (.int ys.length) H := fun p => by
      split at p
      · rename_i l hl
        obtain ⟨a, xs, rfl, hq, rs⟩ := asQ_rep r hh hl
        exact ⟨a, xs, rfl, hq, by rw [rs.length]; exact PostG.ok p hh (.int _)⟩
      · exact p.elim
    cases d with
    | str z =>
      obtain ⟨h1, p⟩ := post_if p
      exact .inr ⟨z, by rw [rep_str r], h1, PostG.ok p hh (.int _)⟩
    | _ => exact .inl (other p)
def bInt : Fn := fun ds S => match ds with
  | [.int i] => .ok (.int i) S
  | [.bl b] => .ok (.int (if b = true then 1 else 0)) S
  | _ => .bad
theorem bu_int : BuD γ X W (.type "int") bInt := .of call_int1 fun Φ F θ S ds vs σ H Q rd hh p => by
  unfold bInt at p
  split at p
  · obtain ⟨v, rfl, r⟩ := reps1 rd
    exact .inl ⟨_, by rw [rep_int r], PostG.ok p hh (.int _)⟩
  · obtain ⟨v, rfl, r⟩ := reps1 rd
    exact .inr ⟨_, by rw [rep_bl r], PostG.ok p hh (.int _)⟩
  · exact p.elim
def bAbs : Fn := fun ds S => match ds with
  | [.int i] => .ok (.int (if i < 0 then -i else i)) S
  | _ => .bad
theorem bu_abs : BuD γ X W (.builtin "abs") bAbs := .of call_abs fun Φ F θ S ds vs σ H Q rd hh p => by
  unfold bAbs at p
  split at p
  · obtain ⟨v, rfl, r⟩ := reps1 rd
    exact ⟨_, by rw [rep_int r], PostG.ok p hh (.int _)⟩
  · exact p.elim
/-- the ints of a list -/
def intsD : List Dv → Option (List Int)
  | [] => some []
  | .int i :: r => (intsD r).map fun l => i :: l
  | _ => none
def blsD : List Dv → Option (List Bool)
  | [] => some []
  | .bl i :: r => (blsD r).map fun l => i :: l
  | _ => none
theorem intsD_rep {M : Ev} {F : Hp} {θ : List Addr} : ∀ {xs : List V} {l : List Dv} {ns : List Int}, Reps M F θ xs l → intsD l = some ns → xs = ns.map V.int
  | _, _, _, .nil, e => by rw [intsD] at e; cases e; rfl
  | _, _, _, .cons (d := d) r t, e => by
    cases d <;> first | (simp [intsD] at e; done) | skip
    rw [intsD, Option.map_eq_some_iff] at e
    obtain ⟨l, e, rfl⟩ := e
    rw [rep_int r, intsD_rep t e]
    rfl
theorem blsD_rep {M : Ev} {F : Hp} {θ : List Addr} : ∀ {xs : List V} {l : List Dv} {ns : List Bool}, Reps M F θ xs l → blsD l = some ns → xs = ns.map V.bl
  | _, _, _, .nil, e => by rw [blsD] at e; cases e; rfl
  | _, _, _, .cons (d := d) r t, e => by
    cases d <;> first | (simp [blsD] at e; done) | skip
    rw [blsD, Option.map_eq_some_iff] at e
    obtain ⟨l, e, rfl⟩ := e
    rw [rep_bl r, blsD_rep t e]
    rfl
theorem intsD_map (ns : List Int) : intsD (ns.map Dv.int) = some ns := by
  induction ns with
  | nil => rfl
  | cons n ns ih => rw [List.map_cons, intsD, ih]; rfl
theorem blsD_map (ns : List Bool) : blsD (ns.map Dv.bl) = some ns := by
  induction ns with
  | nil => rfl
  | cons n ns ih => rw [List.map_cons, blsD, ih]; rfl
def maxL : Int → List Int → Int
  | m, [] => m
  | m, x :: r => maxL (if m < x then x else m) r
def minL : Int → List Int → Int
  | m, [] => m
  | m, x :: r => minL (if x < m then x else m) r
theorem maxL_ge : ∀ (l : List Int) (m : Int), m ≤ maxL m l ∧ ∀ x ∈ l, x ≤ maxL m l
  | [], m => ⟨by rw [maxL]; exact Int.le_refl m, fun x h => by simp at h⟩
  | y :: r, m => by
    obtain ⟨h1, h2⟩ := maxL_ge r (if m < y then y else m)
    rw [maxL]
    have h3 : m ≤ (if m < y then y else m) ∧ y ≤ (if m < y then y else m) := by split <;> omega
    refine ⟨by omega, fun x hx => ?_⟩
    rcases List.mem_cons.mp hx with rfl | hx
    · omega
    · exact h2 x hx
theorem maxL_mem : ∀ (l : List Int) (m : Int), maxL m l = m ∨ maxL m l ∈ l
  | [], m => .inl (by rw [maxL])
  | y :: r, m => by
    rw [maxL]
    rcases maxL_mem r (if m < y then y else m) with h | h
    · rw [h]
      split
      · exact .inr (List.mem_cons_self ..)
      · exact .inl rfl
    · exact .inr (List.mem_cons_of_mem _ h)
theorem minL_le : ∀ (l : List Int) (m : Int), minL m l ≤ m ∧ ∀ x ∈ l, minL m l ≤ x
  | [], m => ⟨by rw [minL]; exact Int.le_refl m, fun x h => by simp at h⟩
  | y :: r, m => by
    obtain ⟨h1, h2⟩ := minL_le r (if y < m then y else m)
    rw [minL]
    have h3 : (if y < m then y else m) ≤ m ∧ (if y < m then y else m) ≤ y := by split <;> omega
    refine ⟨by omega, fun x hx => ?_⟩
    rcases List.mem_cons.mp hx with rfl | hx
    · omega
    · exact h2 x hx
theorem minL_mem : ∀ (l : List Int) (m : Int), minL m l = m ∨ minL m l ∈ l
  | [], m => .inl (by rw [minL])
  | y :: r, m => by
    rw [minL]
    rcases minL_mem r (if y < m then y else m) with h | h
    · rw [h]
      split
      · exact .inr (List.mem_cons_self ..)
      · exact .inl rfl
    · exact .inr (List.mem_cons_of_mem _ h)
def bMax : Fn := fun ds S => match ds with
  | [.int i, .int j] => .ok (.int (if j > i then j else i)) S
  | [d] => match (asR S d).bind intsD with
    | some (m :: r) => .ok (.int (maxL m r)) S
    | _ => .bad
  | _ => .bad
def bMin : Fn := fun ds S => match ds with
  | [.int i, .int j] => .ok (.int (if j < i then j else i)) S
  | [d] => match (asR S d).bind intsD with
    | some (m :: r) => .ok (.int (minL m r)) S
    | _ => .bad
  | _ => .bad
theorem bu_max (c : Ctx X W N sc k) : BuD γ X W (.builtin "max") bMax := .of ((call_max2 c.calm).or (cr_max c.calm)) fun Φ F θ S ds vs σ H Q rd hh p => by
  unfold bMax at p
  split at p
  · obtain ⟨v, w, rfl, r1, r2⟩ := reps2 rd
    exact .inl ⟨_, _, by rw [rep_int r1, rep_int r2], PostG.ok p hh (.int _)⟩
  · obtain ⟨v, rfl, r⟩ := reps1 rd
    split at p
    · rename_i m l hl
      obtain ⟨l', h1, h2⟩ := Option.bind_eq_some_iff.mp hl
      obtain ⟨a, xs, rfl, hq, rs⟩ := asR_rep r hh h1
      have e := intsD_rep rs h2
      subst e
      refine .inr ⟨a, m :: l, rfl, hq, Nat.succ_pos _, fun z hz hm => ?_⟩
      have e : z = maxL m l := by
        obtain ⟨g1, g2⟩ := maxL_ge l m
        have h3 : z ≤ maxL m l := by
          rcases List.mem_cons.mp hz with rfl | hz
          · exact g1
          · exact g2 z hz
        have h4 : maxL m l ≤ z := by
          rcases maxL_mem l m with e | e
          · exact hm _ (by rw [e]; exact List.mem_cons_self ..)
          · exact hm _ (List.mem_cons_of_mem _ e)
        omega
      subst e
      exact PostG.ok p hh (.int _)
    · exact p.elim
  · exact p.elim
theorem bu_min (c : Ctx X W N sc k) : BuD γ X W (.builtin "min") bMin := .of ((call_min2 c.calm).or (cr_min c.calm)) fun Φ F θ S ds vs σ H Q rd hh p => by
  unfold bMin at p
  split at p
  · obtain ⟨v, w, rfl, r1, r2⟩ := reps2 rd
    exact .inl ⟨_, _, by rw [rep_int r1, rep_int r2], PostG.ok p hh (.int _)⟩
  · obtain ⟨v, rfl, r⟩ := reps1 rd
    split at p
    · rename_i m l hl
      obtain ⟨l', h1, h2⟩ := Option.bind_eq_some_iff.mp hl
      obtain ⟨a, xs, rfl, hq, rs⟩ := asR_rep r hh h1
      have e := intsD_rep rs h2
      subst e
      refine .inr ⟨a, m :: l, rfl, hq, Nat.succ_pos _, fun z hz hm => ?_⟩
      have e : z = minL m l := by
        obtain ⟨g1, g2⟩ := minL_le l m
        have h3 : minL m l ≤ z := by
          rcases List.mem_cons.mp hz with rfl | hz
          · exact g1
          · exact g2 z hz
        have h4 : z ≤ minL m l := by
          rcases minL_mem l m with e | e
          · exact hm _ (by rw [e]; exact List.mem_cons_self ..)
          · exact hm _ (List.mem_cons_of_mem _ e)
        omega
      subst e
      exact PostG.ok p hh (.int _)
    · exact p.elim
  · exact p.elim
def bSum : Fn := fun ds S => match ds with
  | [d] => match (asR S d).bind intsD with
    | some l => .ok (.int l.sum) S
    | _ => .bad
  | _ => .bad
def bAny : Fn := fun ds S => match ds with
  | [d] => match (asR S d).bind blsD with
    | some l => .ok (.bl (l.any id)) S
    | _ => .bad
  | _ => .bad
def bAll : Fn := fun ds S => match ds with
  | [d] => match (asR S d).bind blsD with
    | some l => .ok (.bl (l.all id)) S
    | _ => .bad
  | _ => .bad
theorem bu_sum (c : Ctx X W N sc k) : BuD γ X W (.builtin "sum") bSum := .of (cr_sum c.calm) fun Φ F θ S ds vs σ H Q rd hh p => by
  unfold bSum at p
  split at p
  · obtain ⟨v, rfl, r⟩ := reps1 rd
    split at p
    · rename_i l hl
      obtain ⟨l', h1, h2⟩ := Option.bind_eq_some_iff.mp hl
      obtain ⟨a, xs, rfl, hq, rs⟩ := asR_rep r hh h1
      have e := intsD_rep rs h2
      subst e
      exact ⟨a, l, rfl, hq, PostG.ok p hh (.int _)⟩
    · exact p.elim
  · exact p.elim
theorem bu_any (c : Ctx X W N sc k) : BuD γ X W (.builtin "any") bAny := .of (cr_any c.calm) fun Φ F θ S ds vs σ H Q rd hh p => by
  unfold bAny at p
  split at p
  · obtain ⟨v, rfl, r⟩ := reps1 rd
    split at p
    · rename_i l hl
      obtain ⟨l', h1, h2⟩ := Option.bind_eq_some_iff.mp hl
      obtain ⟨a, xs, rfl, hq, rs⟩ := asR_rep r hh h1
      have e := blsD_rep rs h2
      subst e
      exact ⟨a, l, rfl, hq, PostG.ok p hh (.bl _)⟩
    · exact p.elim
  · exact p.elim
theorem bu_all (c : Ctx X W N sc k) : BuD γ X W (.builtin "all") bAll := .of (cr_all c.calm) fun Φ F θ S ds vs σ H Q rd hh p => by
  unfold bAll at p
  split at p
  · obtain ⟨v, rfl, r⟩ := reps1 rd
    split at p
    · rename_i l hl
      obtain ⟨l', h1, h2⟩ := Option.bind_eq_some_iff.mp hl
      obtain ⟨a, xs, rfl, hq, rs⟩ := asR_rep r hh h1
      have e := blsD_rep rs h2
      subst e
      exact ⟨a, l, rfl, hq, PostG.ok p hh (.bl _)⟩
    · exact p.elim
  · exact p.elim

/-! ### list(..), tuple(..) -/
def bList : Fn := fun ds S => match ds with
  | [d] => match asQ S d with
    | some l => .ok (.lst l) S
    | _ => .bad
  | _ => .bad
def bListC : Fn := fun ds S => match ds with
  | [d] => match asQ S d with
    | some l => .ok (.cell S.length) (S ++ [.lst l])
    | _ => .bad
  | _ => .bad
theorem bu_list : BuD γ X W (.type "list") bList := .of call_list_of fun Φ F θ S ds vs σ H Q rd hh p => by
  unfold bList at p
  split at p
  · obtain ⟨v, rfl, r⟩ := reps1 rd
    split at p
    · rename_i l hl
      obtain ⟨a, xs, rfl, hq, rs⟩ := asQ_rep r hh hl
      refine ⟨a, xs, rfl, hq, fun b hb => ?_⟩
      obtain ⟨e, h'⟩ := hh.alloc (.lst xs) hb
      exact p _ _ _ _ e h' (.lst upd_same (rs.ext e))
    · exact p.elim
  · exact p.elim
theorem bu_listC : BuD γ X W (.type "list") bListC := .of call_list_of fun Φ F θ S ds vs σ H Q rd hh p => by
  unfold bListC at p
  split at p
  · obtain ⟨v, rfl, r⟩ := reps1 rd
    split at p
    · rename_i l hl
      obtain ⟨a, xs, rfl, hq, rs⟩ := asQ_rep r hh hl
      refine ⟨a, xs, rfl, hq, fun b hb => ?_⟩
      obtain ⟨e, h'⟩ := hh.newCell (o := .lst xs) (ob := .lst l) hb rs
      refine p _ _ _ _ e h' (.cell ?_)
      rw [← hh.len, List.getElem?_append_right (Nat.le_refl _), Nat.sub_self]
      rfl
    · exact p.elim
  · exact p.elim
def bTuple : Fn := fun ds S => match ds with
  | [.tup l] => .ok (.tup l) S
  | [.ktup l] => .ok (.ktup l) S
  | [d] => match asR S d with
    | some l => .ok (.tup l) S
    | none => .bad
  | _ => .bad
theorem bu_tuple : BuD γ X W (.type "tuple") bTuple := .of call_tuple_of fun Φ F θ S ds vs σ H Q rd hh p => by
  match ds, rd, p with
  | [], rd, p => exact p.elim
  | a :: _ :: _, rd, p => cases a <;> exact p.elim
  | [d], rd, p =>
    obtain ⟨v, rfl, r⟩ := reps1 rd
    have other : PostG ⟨X.K, γ⟩ Φ W σ F θ (Rep ⟨X.K, γ⟩) (match asR S d with | some l => Re.ok (.tup l) S | none => .bad) Q → ∃ p ys, [v] = [V.ref p] ∧ ((SqL X.K H p ys ∧ ∀ l, H l = none → Q (.ref l) (upd H l (.tup ys))) ∨ (SqT X.K H p ys ∧ Q (.ref p) H)) := fun p => by
      split at p
      · rename_i l hl
        obtain ⟨a, xs, rfl, hq, rs⟩ := asR_rep r hh hl
        refine ⟨a, xs, rfl, .inl ⟨hq, fun b hb => ?_⟩⟩
        obtain ⟨e, h'⟩ := hh.alloc (.tup xs) hb
        exact p _ _ _ _ e h' (.tup upd_same (rs.ext e))
      · exact p.elim
    cases d with
    | tup l =>
      obtain ⟨a, xs, rfl, hq, rs⟩ := asT_rep r hh rfl
      exact ⟨a, xs, rfl, .inr ⟨hq, PostG.ok p hh r⟩⟩
    | ktup l =>
      obtain ⟨a, xs, rfl, hq, rs⟩ := asT_rep r hh rfl
      exact ⟨a, xs, rfl, .inr ⟨hq, PostG.ok p hh r⟩⟩
    | _ => first | exact other p | exact other (by simpa only [bTuple] using p)
/-- tuple(a list): a tuple whose object is known whole -/
def bTupleK : Fn := fun ds S => match ds with
  | [d] => match asR S d with
    | some l => .ok (.ktup l) S
    | _ => .bad
  | _ => .bad
theorem call_tuple_known : CallR X (.type "tuple") (fun xs H Q => ∃ p ys, xs = [.ref p] ∧ SqL X.K H p ys ∧ ∀ l o, H l = none → o.dict = none → Q (.ref l) (upd H l (.frz o (.tup ys)))) := by
  intro pins s σ H xs us Q I r h
  obtain ⟨p, ys, rfl, hq, q⟩ := h
  obtain ⟨u, rfl, rx⟩ := vals1 r
  cases rx
  obtain ⟨its, r', pl, hz⟩ := I.list hq
  have hlen := r'.length
  refine call_tuple_list pl.isList (fun h' kp => ?_) (by simp only [List.size_toArray] <;> omega)
  have I1 : Inv X pins σ H { s with heap := h' } := I.kept (t' := s.toks) kp
  have I2 : Inv X pins σ (upd H h'.objs.size (.frz { cls := .type "tuple", data := .seq its.toArray } (.tup ys))) { s with heap := h'.push { cls := .type "tuple", data := .seq its.toArray } } :=
    I1.laid (t' := s.toks) (fun b o e => Heap.get?_push_of_some _ e) (Nat.le_refl _) (show ObjOk X.prog X.w _ _ _ (.frz _ (.tup ys)) from ⟨Heap.get?_push_size _ rfl, hz, its, r', IsTup.new _ _⟩)
  exact ⟨.ref h'.objs.size, _, I2, rfl, q _ _ (I1.hok.fresh (Nat.le_refl _)) rfl⟩
theorem bu_tupleK : BuD γ X W (.type "tuple") bTupleK := .of call_tuple_known fun Φ F θ S ds vs σ H Q rd hh p => by
  unfold bTupleK at p
  split at p
  · obtain ⟨v, rfl, r⟩ := reps1 rd
    split at p
    · rename_i l hl
      obtain ⟨a, xs, rfl, hq, rs⟩ := asR_rep r hh hl
      refine ⟨a, xs, rfl, hq, fun b o hb ho => ?_⟩
      obtain ⟨e, h'⟩ := hh.alloc (.frz o (.tup xs)) hb
      exact p _ _ _ _ e h' (.ktup upd_same ho (rs.ext e))
    · exact p.elim
  · exact p.elim

/-! ### methods of lists -/
/-- o.m(..): a receiver that is a list, then the arguments -/
def eM (chk : Dv → Sto → Bool) (g : Dv → List Dv → Sto → Re Dv) (o : Ex) (a : Xs) : Ex := fun ρ S => (o ρ S).bind fun x S1 => if chk x S1 = true then (a ρ S1).bind fun ys S2 => g x ys S2 else .bad
def isL (d : Dv) (S : Sto) : Bool := (asR S d).isSome
section
variable {o e : Expr} {es : List Expr} {fo : Ex} {fa : Xs} {name : Str} {apos cpos : Pos} {id : String} {r : V → List V → Hp → VK → Prop} {g : Dv → List Dv → Sto → Re Dv}
theorem tyL {M : Ev} {Φ : Hp} {F : Hp} {θ : List Addr} {S : Sto} {H : Hp} {v : V} {d : Dv} (r : Rep M F θ v d) (hh : HA M Φ F θ S H) (h : isL d S = true) : tyV M.K "list" v H := by
  obtain ⟨l, hl⟩ := Option.isSome_iff_exists.mp h
  obtain ⟨a, xs, rfl, hq, rs⟩ := asR_rep r hh hl
  exact .inl ⟨rfl, xs, hq⟩
theorem de_lm (slot : Slot "list" name id) (hty : typeOf (.builtin id) = pure (.type "method_descriptor")) (hm : MtR X id r) (ho : DE γ X W o fo) (ha : DAs γ X W (e :: es) fa)
    (kr : ∀ Φ F θ S d ds v vs σ H Q, Rep ⟨X.K, γ⟩ F θ v d → Reps ⟨X.K, γ⟩ F θ vs ds → HA ⟨X.K, γ⟩ Φ F θ S H → PostG ⟨X.K, γ⟩ Φ W σ F θ (Rep ⟨X.K, γ⟩) (g d ds S) Q → r v vs H Q)
    (hbase : attributeBase o name X.env (eval o X.env) = eval o X.env := by rfl)
    (hfew : ((backTo cpos (starEach (e :: es) X.env)).all (fun x => !x.1) && (backToKw cpos (keywordEach [] X.env)).all (fun x => x.1.isSome)
      && decide ((e :: es).length + ([] : List Keyword).length + (if ([] : List Keyword).isEmpty then 0 else 1) < 30)) = true := by rfl)
    (hline : (apos.endLine == cpos.line) = true := by rfl) (hs : starEach (e :: es) X.env = (false, eval e X.env) :: starEach es X.env := by rfl) (hplain : (backTo cpos (starEach es X.env)).any (·.1) = false := by rfl) :
    DE γ X W (.Call (.Attribute o name apos) (e :: es) [] cpos) (eM isL g fo fa) :=
  PE.weak (pe_bm PySem.F.plainAttrs_list slot hty hm ho ha hbase hfew hline hs hplain) fun σ H Q ⟨Φ, ρ, F, θ, S, ea, hh, p⟩ => ⟨Φ, ρ, F, θ, S, ea, hh, PostG.seq p fun d S' v F' θ' H' _ e h' r' p' => by
    obtain ⟨h1, p'⟩ := post_if p'
    exact ⟨tyL r' h' h1, Φ, ρ, F', θ', S', ea.ext e, h', PostG.seq p' fun ds S2 vs F2 θ2 H2 _ e2 h2 r2 p2 => kr Φ F2 θ2 S2 d ds v vs σ H2 Q (r'.ext e2) r2 h2 p2⟩⟩
theorem de_lm0 (slot : Slot "list" name id) (hty : typeOf (.builtin id) = pure (.type "method_descriptor")) (hm : MtR X id r) (ho : DE γ X W o fo)
    (kr : ∀ Φ F θ S d ds v vs σ H Q, Rep ⟨X.K, γ⟩ F θ v d → Reps ⟨X.K, γ⟩ F θ vs ds → HA ⟨X.K, γ⟩ Φ F θ S H → PostG ⟨X.K, γ⟩ Φ W σ F θ (Rep ⟨X.K, γ⟩) (g d ds S) Q → r v vs H Q)
    (hbase : attributeBase o name X.env (eval o X.env) = eval o X.env := by rfl) (hline : (apos.endLine == cpos.line) = true := by rfl) : DE γ X W (.Call (.Attribute o name apos) [] [] cpos) (eM isL g fo aNil) :=
  PE.weak (pe_bm0 PySem.F.plainAttrs_list slot hty hm ho hbase hline) fun σ H Q ⟨Φ, ρ, F, θ, S, ea, hh, p⟩ => ⟨Φ, ρ, F, θ, S, ea, hh, PostG.seq p fun d S' v F' θ' H' _ e h' r' p' => by
    obtain ⟨h1, p'⟩ := post_if p'
    exact ⟨tyL r' h' h1, kr Φ F' θ' S' d [] v [] σ H' Q r' .nil h' p'⟩⟩
end
/-- the cell of a list -/
theorem cell_rep {M : Ev} {Φ : Hp} {F : Hp} {θ : List Addr} {S : Sto} {H : Hp} {v : V} {j : Nat} {l : List Dv} (r : Rep M F θ v (.cell j)) (hh : HA M Φ F θ S H) (hk : S[j]? = some (.lst l)) : ∃ a xs, v = .ref a ∧ θ[j]? = some a ∧ H a = some (.lst xs) ∧ Reps M F θ xs l := by
  cases r with
  | @cell _ a ha =>
    obtain ⟨_, ob, h5, h6⟩ := hh.live _ _ _ ha hk (by intro z; cases z)
    cases ob <;> first | exact h6.elim | skip
    exact ⟨a, _, rfl, ha, h5, h6⟩
def mApp : Dv → List Dv → Sto → Re Dv := fun d ds S => match d, ds with
  | .cell j, [y] => match S[j]? with
    | some (.lst l) => if l.length < sizeLine then .ok .non (S.set j (.lst (l ++ [y]))) else .bad
    | _ => .bad
  | _, _ => .bad
theorem de_append {o e : Expr} {fo : Ex} {fa : Xs} {apos cpos : Pos} (ho : DE γ X W o fo) (ha : DAs γ X W [e] fa) (hbase : attributeBase o "append" X.env (eval o X.env) = eval o X.env := by rfl)
    (hline : (apos.endLine == cpos.line) = true := by rfl) (hs : starEach [e] X.env = (false, eval e X.env) :: starEach [] X.env := by rfl)
    (hfew : ((backTo cpos (starEach [e] X.env)).all (fun x => !x.1) && (backToKw cpos (keywordEach [] X.env)).all (fun x => x.1.isSome)
      && decide (([e] : List Expr).length + ([] : List Keyword).length + (if ([] : List Keyword).isEmpty then 0 else 1) < 30)) = true := by rfl) : DE γ X W (.Call (.Attribute o "append" apos) [e] [] cpos) (eM isL mApp fo fa) :=
  de_lm PySem.F.slot_list_append PySem.F.type_list_append mt_append ho ha (fun Φ F θ S d ds v vs σ H Q r rs hh p => by
    unfold mApp at p
    split at p
    · split at p
      · rename_i l hk
        obtain ⟨hl, p⟩ := post_if p
        obtain ⟨a, xs, rfl, h1, h2, h3⟩ := cell_rep r hh hk
        obtain ⟨w, rfl, ry⟩ := reps1 rs
        refine ⟨a, xs, w, rfl, rfl, h2, by rw [h3.length]; exact hl, ?_⟩
        exact PostG.ok p (hh.setCell h1 hk (by intro z; cases z) (o' := .lst (xs ++ [w])) (ob' := .lst (l ++ [_])) (h3.append (.cons ry .nil))) .non
      · exact p.elim
    · exact p.elim) hbase hfew hline hs
def mPop : Dv → List Dv → Sto → Re Dv := fun d ds S => match d, ds with
  | .cell j, [] => match S[j]? with
    | some (.lst l) => match l[l.length - 1]? with
      | some y => .ok y (S.set j (.lst l.dropLast))
      | none => .bad
    | _ => .bad
  | _, _ => .bad
theorem Reps.dropLast {M : Ev} {F : Hp} {θ : List Addr} {xs : List V} {l : List Dv} (r : Reps M F θ xs l) : Reps M F θ xs.dropLast l.dropLast := by
  rw [List.dropLast_eq_take, List.dropLast_eq_take, r.length]
  exact Reps.take _ r
theorem de_pop {o : Expr} {fo : Ex} {apos cpos : Pos} (ho : DE γ X W o fo) (hbase : attributeBase o "pop" X.env (eval o X.env) = eval o X.env := by rfl) (hline : (apos.endLine == cpos.line) = true := by rfl) :
    DE γ X W (.Call (.Attribute o "pop" apos) [] [] cpos) (eM isL mPop fo aNil) :=
  de_lm0 PySem.F.slot_list_pop PySem.F.type_list_pop mt_pop ho (fun Φ F θ S d ds v vs σ H Q r rs hh p => by
    unfold mPop at p
    split at p
    · split at p
      · rename_i l hk
        split at p
        · rename_i y hy
          obtain ⟨a, xs, rfl, h1, h2, h3⟩ := cell_rep r hh hk
          cases rs
          obtain ⟨w, hw, rw'⟩ := h3.get hy
          refine ⟨a, xs, w, rfl, rfl, h2, by rw [h3.length]; exact hw, ?_⟩
          exact PostG.ok p (hh.setCell h1 hk (by intro z; cases z) (o' := .lst xs.dropLast) (ob' := .lst l.dropLast) h3.dropLast) rw'
        · exact p.elim
      · exact p.elim
    · exact p.elim) hbase hline
def mPopAt : Dv → List Dv → Sto → Re Dv := fun d ds S => match d, ds with
  | .cell j, [.int i] => match S[j]? with
    | some (.lst l) => if 0 ≤ i ∧ i < 2 ^ 63 then (match l[i.toNat]? with
      | some y => .ok y (S.set j (.lst (l.eraseIdx i.toNat)))
      | none => .bad) else .bad
    | _ => .bad
  | _, _ => .bad
theorem Reps.eraseIdx {M : Ev} {F : Hp} {θ : List Addr} : ∀ {xs : List V} {l : List Dv} (i : Nat), Reps M F θ xs l → Reps M F θ (xs.eraseIdx i) (l.eraseIdx i)
  | _, _, _, .nil => .nil
  | _, _, 0, .cons _ t => t
  | _, _, i + 1, .cons q t => .cons q (Reps.eraseIdx i t)
theorem de_popAt {o e : Expr} {fo : Ex} {fa : Xs} {apos cpos : Pos} (ho : DE γ X W o fo) (ha : DAs γ X W [e] fa) (hbase : attributeBase o "pop" X.env (eval o X.env) = eval o X.env := by rfl)
    (hline : (apos.endLine == cpos.line) = true := by rfl) (hs : starEach [e] X.env = (false, eval e X.env) :: starEach [] X.env := by rfl)
    (hfew : ((backTo cpos (starEach [e] X.env)).all (fun x => !x.1) && (backToKw cpos (keywordEach [] X.env)).all (fun x => x.1.isSome)
      && decide (([e] : List Expr).length + ([] : List Keyword).length + (if ([] : List Keyword).isEmpty then 0 else 1) < 30)) = true := by rfl) : DE γ X W (.Call (.Attribute o "pop" apos) [e] [] cpos) (eM isL mPopAt fo fa) :=
  de_lm PySem.F.slot_list_pop PySem.F.type_list_pop mt_popAt ho ha (fun Φ F θ S d ds v vs σ H Q r rs hh p => by
    unfold mPopAt at p
    split at p
    · rename_i j i
      split at p
      · rename_i l hk
        obtain ⟨hi, p⟩ := post_if p
        split at p
        · rename_i y hy
          obtain ⟨a, xs, rfl, h1, h2, h3⟩ := cell_rep r hh hk
          obtain ⟨w, rfl, ri⟩ := reps1 rs
          obtain ⟨u, hu, ru⟩ := h3.get hy
          have hlt : i.toNat < xs.length := (List.getElem?_eq_some_iff.mp hu).1
          refine ⟨a, xs, i, i.toNat, u, rfl, by rw [rep_int ri], h2, by omega, hi.2, seqIndex_of hi.1 (by omega), hu, ?_⟩
          exact PostG.ok p (hh.setCell h1 hk (by intro z; cases z) (o' := .lst (xs.eraseIdx i.toNat)) (ob' := .lst (l.eraseIdx i.toNat)) (Reps.eraseIdx _ h3)) ru
        · exact p.elim
      · exact p.elim
    · exact p.elim) hbase hfew hline hs
/-- the first place of an equal one -/
def firstAt (p : PyData) : List PyData → Option Nat
  | [] => none
  | q :: r => if PyData.eqv q p = true then some 0 else (firstAt p r).map (· + 1)
theorem firstAt_is {p : PyData} : ∀ {l : List PyData} {j : Nat}, firstAt p l = some j → (∃ z, l[j]? = some z ∧ PyData.eqv z p = true) ∧ ∀ (m : Nat) (z : PyData), m < j → l[m]? = some z → PyData.eqv z p = false
  | [], _, h => by rw [firstAt] at h; cases h
  | q :: r, j, h => by
    rw [firstAt] at h
    by_cases e : PyData.eqv q p = true
    · rw [if_pos e] at h
      cases h
      exact ⟨⟨q, rfl, e⟩, fun m z hm => absurd hm (Nat.not_lt_zero _)⟩
    · rw [if_neg e, Option.map_eq_some_iff] at h
      obtain ⟨j', h, rfl⟩ := h
      obtain ⟨⟨z, h1, h2⟩, h3⟩ := firstAt_is h
      refine ⟨⟨z, by simpa using h1, h2⟩, fun m z hm hz => ?_⟩
      cases m with
      | zero => simp at hz; subst hz; simpa using e
      | succ m => exact h3 m z (by omega) (by simpa using hz)
def mIndex : Dv → List Dv → Sto → Re Dv := fun d ds S => match ds with
  | [y] => match toPy S d, toPy S y with
    | some (.list q), some p => if (SeqAt.shaped (.list q) && SeqAt.shaped p) = true then (match firstAt p q with
      | some j => .ok (.int j) S
      | none => .bad) else .bad
    | _, _ => .bad
  | _ => .bad
theorem de_index (c : Ctx X W N sc k) {o e : Expr} {fo : Ex} {fa : Xs} {apos cpos : Pos} (ho : DE γ X W o fo) (ha : DAs γ X W [e] fa) (hbase : attributeBase o "index" X.env (eval o X.env) = eval o X.env := by rfl)
    (hline : (apos.endLine == cpos.line) = true := by rfl) (hs : starEach [e] X.env = (false, eval e X.env) :: starEach [] X.env := by rfl)
    (hfew : ((backTo cpos (starEach [e] X.env)).all (fun x => !x.1) && (backToKw cpos (keywordEach [] X.env)).all (fun x => x.1.isSome)
      && decide (([e] : List Expr).length + ([] : List Keyword).length + (if ([] : List Keyword).isEmpty then 0 else 1) < 30)) = true := by rfl) : DE γ X W (.Call (.Attribute o "index" apos) [e] [] cpos) (eM isL mIndex fo fa) :=
  de_lm PySem.F.slot_list_index PySem.F.type_list_index (mt_indexD (units65 c)) ho ha (fun Φ F θ S d ds v vs σ H Q r rs hh p => by
    unfold mIndex at p
    split at p
    · split at p
      · rename_i q pp h1 h2
        obtain ⟨h, p⟩ := post_if p
        obtain ⟨s1, s2⟩ := Bool.and_eq_true_iff.mp h
        split at p
        · rename_i j hj
          obtain ⟨w, rfl, ry⟩ := reps1 rs
          obtain ⟨⟨z, z1, z2⟩, z3⟩ := firstAt_is hj
          have dl := toPy_rep hh r h1
          have dy := toPy_rep hh ry h2
          obtain ⟨a, rfl⟩ : ∃ a, v = .ref a := by cases dl; exact ⟨_, rfl⟩
          exact ⟨a, w, pp, q, j, z, rfl, rfl, dl, dy, s1, s2, z1, z2, z3, PostG.ok p hh (.int _)⟩
        · exact p.elim
      · exact p.elim
    · exact p.elim) hbase hfew hline hs
def mReverse : Dv → List Dv → Sto → Re Dv := fun d ds S => match d, ds with
  | .cell j, [] => match S[j]? with
    | some (.lst l) => .ok .non (S.set j (.lst l.reverse))
    | _ => .bad
  | _, _ => .bad
def mClear : Dv → List Dv → Sto → Re Dv := fun d ds S => match d, ds with
  | .cell j, [] => match S[j]? with
    | some (.lst l) => .ok .non (S.set j (.lst []))
    | _ => .bad
  | _, _ => .bad
theorem Reps.reverse {M : Ev} {F : Hp} {θ : List Addr} : ∀ {xs : List V} {l : List Dv}, Reps M F θ xs l → Reps M F θ xs.reverse l.reverse
  | _, _, .nil => .nil
  | _, _, .cons q t => by rw [List.reverse_cons, List.reverse_cons]; exact (Reps.reverse t).append (.cons q .nil)
theorem de_reverse {o : Expr} {fo : Ex} {apos cpos : Pos} (ho : DE γ X W o fo) (hbase : attributeBase o "reverse" X.env (eval o X.env) = eval o X.env := by rfl) (hline : (apos.endLine == cpos.line) = true := by rfl) :
    DE γ X W (.Call (.Attribute o "reverse" apos) [] [] cpos) (eM isL mReverse fo aNil) :=
  de_lm0 PySem.F.slot_list_reverse PySem.F.type_list_reverse mt_reverse ho (fun Φ F θ S d ds v vs σ H Q r rs hh p => by
    unfold mReverse at p
    split at p
    · split at p
      · rename_i l hk
        obtain ⟨a, xs, rfl, h1, h2, h3⟩ := cell_rep r hh hk
        cases rs
        refine ⟨a, xs, rfl, rfl, h2, ?_⟩
        exact PostG.ok p (hh.setCell h1 hk (by intro z; cases z) (o' := .lst xs.reverse) (ob' := .lst l.reverse) h3.reverse) .non
      · exact p.elim
    · exact p.elim) hbase hline
theorem de_clear {o : Expr} {fo : Ex} {apos cpos : Pos} (ho : DE γ X W o fo) (hbase : attributeBase o "clear" X.env (eval o X.env) = eval o X.env := by rfl) (hline : (apos.endLine == cpos.line) = true := by rfl) :
    DE γ X W (.Call (.Attribute o "clear" apos) [] [] cpos) (eM isL mClear fo aNil) :=
  de_lm0 PySem.F.slot_list_clear PySem.F.type_list_clear mt_clear ho (fun Φ F θ S d ds v vs σ H Q r rs hh p => by
    unfold mClear at p
    split at p
    · split at p
      · rename_i l hk
        obtain ⟨a, xs, rfl, h1, h2, h3⟩ := cell_rep r hh hk
        cases rs
        refine ⟨a, xs, rfl, rfl, h2, ?_⟩
        exact PostG.ok p (hh.setCell h1 hk (by intro z; cases z) (o' := .lst []) (ob' := .lst []) .nil) .non
      · exact p.elim
    · exact p.elim) hbase hline
end
end DL

/-! The D layer, 9: what is walked; list comprehensions. -/
namespace DL
open PySem PySem.Spec PyProof.Rows L2
section
variable {γ : Nat → Addr} {X : Cx} {W : WX} {N : List Str} {sc : Scope} {k : Nat} {pos : Pos}

/-! ### a list, a tuple, a text -/
def always : Sto → Prop := fun _ => True
def strD (x : Str) : List Dv := x.cps.toList.map fun c => .str ⟨#[c]⟩
/-- what walking a value yields -/
def itD (d : Dv) (S : Sto) : Re Wk := match d with
  | .tup l => .ok (l, always) S
  | .ktup l => .ok (l, always) S
  | .lst l => .ok (l, always) S
  | .ro l => .ok (l, always) S
  | .str x => .ok (strD x, always) S
  | .cell j => match S[j]? with
    | some (.lst l) => .ok (l, fun S' => S'[j]? = some (.lst l)) S
    | _ => .bad
  | _ => .bad
def iSeq (f : Ex) : It' := fun ρ S => (f ρ S).bind itD
def iAny (K : PySem.W.Frag) (tl : TE) : TI := fun σ H R => tl σ H fun x H1 => (∃ a, x = .ref a ∧ (∃ xs, SqL K H1 a xs) ∧ R (Itl K a) H1) ∨ (∃ a, x = .ref a ∧ (∃ xs, SqT K H1 a xs) ∧ R (Itt K a) H1) ∨ ∃ z, x = .str z ∧ R (Its z) H1
theorem pi_any {tg l : Expr} {tl : TE} (hl : PE X l tl) : PI X tg l (iAny X.K tl) := by
  refine ⟨fun pins s σ H R I h => ?_⟩
  refine thn (hl.run pins s σ H _ I h) fun v s1 ⟨x, H1, I1, r1, q1⟩ => ?_
  rcases q1 with ⟨a, e, ⟨xs, hq⟩, q⟩ | ⟨a, e, ⟨xs, hq⟩, q⟩ | ⟨z, e, q⟩
  · subst e
    cases r1
    obtain ⟨its, rv, p, hz⟩ := I1.list hq
    refine wpAny_pyIter_list p.isList ?_
    refine ⟨s1.heap.objs.size, [s1.heap.objs.size], _, _, H1, rfl, I1.kept (t' := s1.toks) fun b o e => Heap.get?_push_of_some _ e, turn_list a _, ⟨_, Heap.get?_push_size _ rfl, rfl, rfl⟩, fun b hb => ?_, q⟩
    have e : b = s1.heap.objs.size := by simpa using hb
    subst e
    exact I1.fpOk (Nat.le_refl _) (I1.hok.fresh (Nat.le_refl _))
  · subst e
    cases r1
    obtain ⟨its, rv, p, hz⟩ := I1.tuple hq
    refine wpAny_pyIter_tuple (show s1.heap.IsTuple a its.toArray from p) ?_
    refine ⟨s1.heap.objs.size, [s1.heap.objs.size], _, _, H1, rfl, I1.kept (t' := s1.toks) fun b o e => Heap.get?_push_of_some _ e, turn_tuple a _, ⟨_, Heap.get?_push_size _ rfl, rfl, rfl⟩, fun b hb => ?_, q⟩
    have e : b = s1.heap.objs.size := by simpa using hb
    subst e
    exact I1.fpOk (Nat.le_refl _) (I1.hok.fresh (Nat.le_refl _))
  · subst e
    obtain ⟨t, rfl⟩ := r1
    cases ha : z.cps.all (· < 128)
    · exact wpAny_pyIter_wide ha (pi_one (tk := s1.toks) I1 _ (turn_str _ z t "str_iterator" (.inr rfl)) ⟨_, Heap.get?_push_size _ rfl, rfl, rfl⟩ q)
    · exact wpAny_pyIter_ascii ha (pi_one (tk := s1.toks) I1 _ (turn_str _ z t "str_ascii_iterator" (.inl rfl)) ⟨_, Heap.get?_push_size _ rfl, rfl, rfl⟩ q)
section
variable {M : Ev} {F : Hp} {θ : List Addr} {a : Addr} {xs : List V} {l : List Dv}
theorem walk_l {chk : Sto → Prop} (hq : ∀ Φ F' θ' S' H, Gr F F' θ θ' → HA M Φ F' θ' S' H → chk S' → ∃ xs, SqL M.K H a xs ∧ Reps M F' θ' xs l) : Walks M F θ (Itl M.K a) (l, chk) := fun i Φ F' θ' S' H e hh hc => by
  obtain ⟨xs, q, r⟩ := hq Φ F' θ' S' H e hh hc
  refine ⟨fun h => ⟨xs, q, by rw [r.length]; exact h⟩, fun d hd => ?_⟩
  obtain ⟨v, hv, rv⟩ := r.get hd
  refine ⟨⟨xs, v, q, hv⟩, fun u H' ⟨e1, y⟩ => ?_⟩
  subst e1
  have z := y xs q
  rw [hv] at z
  cases z
  exact ⟨F', .rfl, hh, rv⟩
theorem walk_t {chk : Sto → Prop} (hq : ∀ Φ F' θ' S' H, Gr F F' θ θ' → HA M Φ F' θ' S' H → chk S' → ∃ xs, SqT M.K H a xs ∧ Reps M F' θ' xs l) : Walks M F θ (Itt M.K a) (l, chk) := fun i Φ F' θ' S' H e hh hc => by
  obtain ⟨xs, q, r⟩ := hq Φ F' θ' S' H e hh hc
  refine ⟨fun h => ⟨xs, q, by rw [r.length]; exact h⟩, fun d hd => ?_⟩
  obtain ⟨v, hv, rv⟩ := r.get hd
  refine ⟨⟨xs, v, q, hv⟩, fun u H' ⟨e1, y⟩ => ?_⟩
  subst e1
  have z := y xs q
  rw [hv] at z
  cases z
  exact ⟨F', .rfl, hh, rv⟩
theorem gr_of {Φ F' : Hp} {θ' : List Addr} {S' : Sto} {H : Hp} (hh : HA M Φ F' θ' S' H) : Gr F' H θ' θ' := ⟨hh.sub, fun _ _ q => q⟩
end
theorem di_seq {tg l : Expr} {f : Ex} (h : DE γ X W l f) : DI γ X W tg l (iSeq f) :=
  PI.weak (pi_any h) fun σ H R ⟨Φ, ρ, F, θ, S, ea, hh, p⟩ => ⟨Φ, ρ, F, θ, S, ea, hh, PostG.seq p fun d S' v F' θ' H' _ e h' r p' => by
    cases r with
    | tup hq rs => exact .inr (.inl ⟨_, rfl, ⟨_, .inl (.inl (h'.sub _ _ hq))⟩, PostG.ok p' h' (walk_t fun Φ2 F2 θ2 S2 H2 e2 h2 _ => ⟨_, .inl (.inl (h2.sub _ _ (e2.le _ _ hq))), rs.ext e2⟩)⟩)
    | ktup hq _ rs => exact .inr (.inl ⟨_, rfl, ⟨_, .inl (.inr ⟨_, h'.sub _ _ hq⟩)⟩, PostG.ok p' h' (walk_t fun Φ2 F2 θ2 S2 H2 e2 h2 _ => ⟨_, .inl (.inr ⟨_, h2.sub _ _ (e2.le _ _ hq)⟩), rs.ext e2⟩)⟩)
    | lst hq rs => exact .inl ⟨_, rfl, ⟨_, SqL.of (h'.sub _ _ hq)⟩, PostG.ok p' h' (walk_l fun Φ2 F2 θ2 S2 H2 e2 h2 _ => ⟨_, SqL.of (h2.sub _ _ (e2.le _ _ hq)), rs.ext e2⟩)⟩
    | ro hq rs => exact .inl ⟨_, rfl, ⟨_, (gr_of h').sqL hq⟩, PostG.ok p' h' (walk_l fun Φ2 F2 θ2 S2 H2 e2 h2 _ => ⟨_, (gr_of h2).sqL (e2.sqL hq), rs.ext e2⟩)⟩
    | str x =>
      refine .inr (.inr ⟨x, rfl, PostG.ok p' h' fun i Φ2 F2 θ2 S2 H2 e2 h2 _ => ⟨fun hl => ?_, fun d hd => ?_⟩⟩)
      · have hl : (strD x).length ≤ i := hl
        unfold strD at hl
        rw [List.length_map, Array.length_toList] at hl
        exact hl
      · have hd : (strD x)[i]? = some d := hd
        unfold strD at hd
        rw [List.getElem?_map, Option.map_eq_some_iff] at hd
        obtain ⟨c, hc, rfl⟩ := hd
        have hc' : x.cps[i]? = some c := by simpa using hc
        refine ⟨(Array.getElem?_eq_some_iff.mp hc').1, fun v H3 ⟨e1, c2, h3, h4⟩ => ?_⟩
        subst e1 h4
        rw [hc'] at h3
        cases h3
        exact ⟨F2, .rfl, h2, .str _⟩
    | @cell j a hj =>
      have p' : PostG ⟨X.K, γ⟩ Φ W σ F' θ' (Walks ⟨X.K, γ⟩) (match S'[j]? with | some (Ob.lst l) => Re.ok (l, fun S'' : Sto => S''[j]? = some (Ob.lst l)) S' | _ => .bad) R := p'
      split at p'
      · rename_i l hk
        obtain ⟨a, xs, h0, h1, h2, h3⟩ := cell_rep (.cell hj) h' hk
        cases h0
        refine .inl ⟨_, rfl, ⟨xs, SqL.of h2⟩, PostG.ok p' h' (walk_l fun Φ2 F2 θ2 S2 H2 e2 h2' hc => ?_)⟩
        obtain ⟨a', xs', h0', h1', h2'', h3'⟩ := cell_rep (.cell (e2.pre _ _ hj)) h2' hc
        cases h0'
        exact ⟨xs', SqL.of h2'', h3'⟩
      · exact p'.elim
    | _ => exact p'.elim⟩
/-! ### range -/
def rgD (lo : Int) (n : Nat) : List Dv := (List.range n).map fun (i : Nat) => Dv.int (lo + (i : Int))
theorem walk_r {M : Ev} {F : Hp} {θ : List Addr} (lo : Int) (n : Nat) : Walks M F θ (Itr lo n) (rgD lo n, always) := fun i Φ F' θ' S' H e hh _ => by
  refine ⟨fun h => ?_, fun d hd => ?_⟩
  · have h : (rgD lo n).length ≤ i := h
    unfold rgD at h
    rw [List.length_map, List.length_range] at h
    exact h
  · have hd : (rgD lo n)[i]? = some d := hd
    unfold rgD at hd
    rw [List.getElem?_map, Option.map_eq_some_iff] at hd
    obtain ⟨j, hj, rfl⟩ := hd
    have hlt : i < n := by
      have := (List.getElem?_eq_some_iff.mp hj).1
      rwa [List.length_range] at this
    rw [List.getElem?_range hlt] at hj
    cases hj
    refine ⟨hlt, fun v H' ⟨e1, e2⟩ => ?_⟩
    subst e1 e2
    exact ⟨F', .rfl, hh, .int _⟩
def iRg1 (a : Xs) : It' := fun ρ S => (a ρ S).bind fun ds S' => match ds with
  | [.int j] => if -(2 ^ 62) ≤ j ∧ j < 2 ^ 62 then .ok (rgD 0 j.toNat, always) S' else .bad
  | _ => .bad
def iRg2 (a : Xs) : It' := fun ρ S => (a ρ S).bind fun ds S' => match ds with
  | [.int i, .int j] => if (-(2 ^ 62) ≤ i ∧ i < 2 ^ 62 ∧ -(2 ^ 62) ≤ j ∧ j < 2 ^ 62) then .ok (rgD i (j - i).toNat, always) S' else .bad
  | _ => .bad
theorem di_range1 {tg a : Expr} {fa : Xs} {p : Pos} (c : Ctx X W N sc k) (hm : X.mg "range" = none) (ha : DAs γ X W [a] fa) (hg : sc.names.lookup ("range" : Str) = some .globalImplicit := by rfl) (hs : starEach [a] X.env = [(false, eval a X.env)] := by rfl) : DI γ X W tg (.Call (.Name "range" p) [a] [] pos) (iRg1 fa) :=
  PI.weak (pi_range1 (show X.env.scope.names.lookup ("range" : Str) = some .globalImplicit by rw [c.hsc]; exact hg) hm ha hs) fun σ H R ⟨Φ, ρ, F, θ, S, ea, hh, p⟩ => ⟨Φ, ρ, F, θ, S, ea, hh, PostG.seq p fun ds S' vs F' θ' H' e0 e h' r p' => by
    split at p'
    · obtain ⟨v, rfl, r1⟩ := reps1 r
      obtain ⟨h1, p'⟩ := post_if p'
      exact ⟨_, by rw [rep_int r1], h1.1, h1.2, PostG.ok p' h' (walk_r 0 _)⟩
    · exact p'.elim⟩
theorem di_range2 {tg a b : Expr} {fa : Xs} {p : Pos} (c : Ctx X W N sc k) (hm : X.mg "range" = none) (ha : DAs γ X W [a, b] fa) (hg : sc.names.lookup ("range" : Str) = some .globalImplicit := by rfl) (hs : starEach [a, b] X.env = [(false, eval a X.env), (false, eval b X.env)] := by rfl)
    (hs2 : starEach [b] X.env = [(false, eval b X.env)] := by rfl) : DI γ X W tg (.Call (.Name "range" p) [a, b] [] pos) (iRg2 fa) :=
  PI.weak (pi_range2 (show X.env.scope.names.lookup ("range" : Str) = some .globalImplicit by rw [c.hsc]; exact hg) hm ha hs hs2) fun σ H R ⟨Φ, ρ, F, θ, S, ea, hh, p⟩ => ⟨Φ, ρ, F, θ, S, ea, hh, PostG.seq p fun ds S' vs F' θ' H' e0 e h' r p' => by
    split at p'
    · obtain ⟨v, w, rfl, r1, r2⟩ := reps2 r
      obtain ⟨h1, p'⟩ := post_if p'
      exact ⟨_, _, by rw [rep_int r1, rep_int r2], h1, PostG.ok p' h' (walk_r _ _)⟩
    · exact p'.elim⟩
/-! ### enumerate, zip -/
def enD : Nat → List Dv → List Dv
  | _, [] => []
  | i, d :: r => .tup [.int i, d] :: enD (i + 1) r
theorem enD_get : ∀ (l : List Dv) (j i : Nat), (enD j l)[i]? = (l[i]?).map fun d => .tup [.int ((j + i : Nat) : Int), d]
  | [], j, i => by simp [enD]
  | d :: r, j, 0 => by simp [enD]
  | d :: r, j, i + 1 => by
    rw [enD, List.getElem?_cons_succ, List.getElem?_cons_succ, enD_get r (j + 1) i]
    congr 1
    funext d
    rw [show j + 1 + i = j + (i + 1) by omega]
theorem enD_len : ∀ (l : List Dv) (j : Nat), (enD j l).length = l.length
  | [], _ => rfl
  | d :: r, j => by rw [enD, List.length_cons, List.length_cons, enD_len r]
def itL (d : Dv) (S : Sto) : Re Wk := match d with
  | .lst l => .ok (l, always) S
  | .ro l => .ok (l, always) S
  | .cell j => match S[j]? with
    | some (.lst l) => .ok (l, fun S' => S'[j]? = some (.lst l)) S
    | _ => .bad
  | _ => .bad
theorem itL_rep {M : Ev} {Φ : Hp} {F : Hp} {θ : List Addr} {S : Sto} {H : Hp} {v : V} {d : Dv} {l : List Dv} {chk : Sto → Prop} (r : Rep M F θ v d) (hh : HA M Φ F θ S H) (e : itL d S = .ok (l, chk) S) :
    ∃ a, v = .ref a ∧ (∃ xs, SqL M.K H a xs) ∧ ∀ Φ F' θ' S' H, Gr F F' θ θ' → HA M Φ F' θ' S' H → chk S' → ∃ xs, SqL M.K H a xs ∧ Reps M F' θ' xs l := by
  cases r with
  | lst hq rs =>
    cases e
    exact ⟨_, rfl, ⟨_, SqL.of (hh.sub _ _ hq)⟩, fun Φ2 F2 θ2 S2 H2 e2 h2 _ => ⟨_, SqL.of (h2.sub _ _ (e2.le _ _ hq)), rs.ext e2⟩⟩
  | ro hq rs =>
    cases e
    exact ⟨_, rfl, ⟨_, (gr_of hh).sqL hq⟩, fun Φ2 F2 θ2 S2 H2 e2 h2 _ => ⟨_, (gr_of h2).sqL (e2.sqL hq), rs.ext e2⟩⟩
  | @cell j a hj =>
    have e : (match S[j]? with | some (Ob.lst l) => Re.ok (l, fun S' : Sto => S'[j]? = some (Ob.lst l)) S | _ => .bad) = .ok (l, chk) S := e
    split at e
    · rename_i l' hk
      cases e
      obtain ⟨a', xs, h0, h1, h2, h3⟩ := cell_rep (.cell hj) hh hk
      cases h0
      refine ⟨_, rfl, ⟨xs, SqL.of h2⟩, fun Φ2 F2 θ2 S2 H2 e2 h2' hc => ?_⟩
      obtain ⟨a', xs', h0', h1', h2'', h3'⟩ := cell_rep (.cell (e2.pre _ _ hj)) h2' hc
      cases h0'
      exact ⟨xs', SqL.of h2'', h3'⟩
    · cases e
  | _ => cases e
theorem itL_same {d : Dv} {S : Sto} {x : Wk} {S' : Sto} (e : itL d S = .ok x S') : S' = S := by
  unfold itL at e
  split at e
  · cases e; rfl
  · cases e; rfl
  · split at e
    · cases e; rfl
    · cases e
  · cases e
def iEn (a : Xs) : It' := fun ρ S => (a ρ S).bind fun ds S' => match ds with
  | [d] => (itL d S').bind fun x S'' => .ok (enD 0 x.1, x.2) S''
  | _ => .bad
theorem itL_noexc {d : Dv} {S : Sto} {c : Nat} {e : Dv} {S' : Sto} : itL d S ≠ .exc c e S' := by
  unfold itL
  split
  · exact fun z => nomatch z
  · exact fun z => nomatch z
  · split
    · exact fun z => nomatch z
    · exact fun z => nomatch z
  · exact fun z => nomatch z
theorem itL_cases (d : Dv) (S : Sto) : (∃ l chk, itL d S = .ok (l, chk) S) ∨ itL d S = .bad := by
  cases e : itL d S with
  | ok x S' =>
    have h := itL_same e
    subst h
    exact .inl ⟨x.1, x.2, rfl⟩
  | exc c x S' => exact absurd e itL_noexc
  | bad => exact .inr rfl
theorem di_enum {elts : List Expr} {kk : Nat} {tpos : Pos} {a : Expr} {fa : Xs} {p : Pos} (c : Ctx X W N sc k) (hm : X.mg "enumerate" = none) (ha : DAs γ X W [a] fa) (hg : sc.names.lookup ("enumerate" : Str) = some .globalImplicit := by rfl) (hs : starEach [a] X.env = [(false, eval a X.env)] := by rfl) :
    DI γ X W (.Tuple elts kk tpos) (.Call (.Name "enumerate" p) [a] [] pos) (iEn fa) :=
  PI.weak (pi_enum (show X.env.scope.names.lookup ("enumerate" : Str) = some .globalImplicit by rw [c.hsc]; exact hg) hm ha hs) fun σ H R ⟨Φ, ρ, F, θ, S, ea, hh, p⟩ => ⟨Φ, ρ, F, θ, S, ea, hh, PostG.seq p fun ds S' vs F' θ' H' e0 e h' r p' => by
    split at p'
    · rename_i d
      obtain ⟨v, rfl, r1⟩ := reps1 r
      rcases itL_cases d S' with ⟨l, chk, el⟩ | el
      · rw [el] at p'
        obtain ⟨a, rfl, ⟨xs, hq⟩, hw⟩ := itL_rep r1 h' el
        refine ⟨a, xs, rfl, hq, PostG.ok p' h' fun i Φ2 F2 θ2 S2 H2 e2 h2 hc => ?_⟩
        obtain ⟨xs2, q2, r2⟩ := hw Φ2 F2 θ2 S2 H2 e2 h2 hc
        refine ⟨fun hl => ⟨xs2, q2, ?_⟩, fun d' hd => ?_⟩
        · have hl : (enD 0 l).length ≤ i := hl
          rw [enD_len] at hl
          rw [r2.length]
          exact hl
        · have hd : (enD 0 l)[i]? = some d' := hd
          rw [enD_get, Option.map_eq_some_iff] at hd
          obtain ⟨y, hy, rfl⟩ := hd
          obtain ⟨u, hu, ru⟩ := r2.get hy
          refine ⟨⟨xs2, u, q2, hu⟩, ?_⟩
          rintro v H3 ⟨T, x, rfl, hT, rfl, hx⟩
          have z := hx xs2 q2
          rw [hu] at z
          cases z
          obtain ⟨e3, h3⟩ := h2.alloc (.tup [.int (i : Nat), u]) hT
          refine ⟨_, e3, h3, .tup upd_same (.cons ?_ (.cons (ru.ext e3) .nil))⟩
          rw [Nat.zero_add]
          exact .int _
      · rw [el] at p'
        exact p'.elim
    · exact p'.elim⟩
def zipD : List Dv → List Dv → List Dv
  | a :: l, b :: m => .tup [a, b] :: zipD l m
  | _, _ => []
theorem zipD_get : ∀ (l m : List Dv) (i : Nat) (d : Dv), (zipD l m)[i]? = some d → ∃ a b, l[i]? = some a ∧ m[i]? = some b ∧ d = .tup [a, b]
  | [], _, _, _, h => by simp [zipD] at h
  | _ :: _, [], _, _, h => by simp [zipD] at h
  | a :: l, b :: m, 0, d, h => by simp [zipD] at h; exact ⟨a, b, rfl, rfl, h.symm⟩
  | a :: l, b :: m, i + 1, d, h => by
    rw [zipD, List.getElem?_cons_succ] at h
    simpa using zipD_get l m i d h
theorem zipD_len : ∀ (l m : List Dv), (zipD l m).length = min l.length m.length
  | [], _ => by simp [zipD]
  | _ :: _, [] => by simp [zipD]
  | a :: l, b :: m => by rw [zipD, List.length_cons, zipD_len l m, List.length_cons, List.length_cons]; omega
def iZp (a : Xs) : It' := fun ρ S => (a ρ S).bind fun ds S' => match ds with
  | [d, e] => match asT d, asT e with
    | some l, some m => .ok (zipD l m, always) S'
    | _, _ => (itL d S').bind fun x S1 => (itL e S1).bind fun y S2 => .ok (zipD x.1 y.1, fun S'' => x.2 S'' ∧ y.2 S'') S2
  | _ => .bad
theorem asT_ext {M : Ev} {F : Hp} {θ : List Addr} {v : V} {d : Dv} {l : List Dv} (r : Rep M F θ v d) (e : asT d = some l) : ∃ a xs, v = .ref a ∧ SqT M.K F a xs ∧ Reps M F θ xs l := by
  cases r with
  | tup h rs => cases e; exact ⟨_, _, rfl, .inl (.inl h), rs⟩
  | ktup h _ rs => cases e; exact ⟨_, _, rfl, .inl (.inr ⟨_, h⟩), rs⟩
  | _ => cases e
theorem di_zip {elts : List Expr} {kk : Nat} {tpos : Pos} {a b : Expr} {fa : Xs} {p : Pos} (c : Ctx X W N sc k) (hm : X.mg "zip" = none) (ha : DAs γ X W [a, b] fa) (hg : sc.names.lookup ("zip" : Str) = some .globalImplicit := by rfl)
    (hs : starEach [a, b] X.env = (false, eval a X.env) :: starEach [b] X.env := by rfl) (hpl : (backTo pos (starEach [b] X.env)).any (·.1) = false := by rfl) :
    DI γ X W (.Tuple elts kk tpos) (.Call (.Name "zip" p) [a, b] [] pos) (iZp fa) :=
  PI.weak (RZ.pi_zipA (show X.env.scope.names.lookup ("zip" : Str) = some .globalImplicit by rw [c.hsc]; exact hg) hm ha hs hpl) fun σ H R ⟨Φ, ρ, F, θ, S, ea, hh, p⟩ => ⟨Φ, ρ, F, θ, S, ea, hh, PostG.seq p fun ds S' vs F' θ' H' e0 e h' r p' => by
    split at p'
    · rename_i d1 d2
      obtain ⟨v, w, rfl, r1, r2⟩ := reps2 r
      split at p'
      · rename_i l m h1 h2
        obtain ⟨a, xs, rfl, q1, s1⟩ := asT_ext r1 h1
        obtain ⟨b, ys, rfl, q2, s2⟩ := asT_ext r2 h2
        refine ⟨a, b, xs, ys, rfl, .inr ⟨(gr_of h').sqT q1, (gr_of h').sqT q2, PostG.ok p' h' fun i Φ2 F2 θ2 S2 H2 e2 hh2 _ => ⟨fun hl => ?_, fun d hd => ?_⟩⟩⟩
        · have hl : (zipD l m).length ≤ i := hl
          rw [zipD_len] at hl
          exact ⟨xs, ys, (gr_of hh2).sqT (e2.sqT q1), (gr_of hh2).sqT (e2.sqT q2), by rw [s1.length, s2.length]; omega⟩
        · obtain ⟨a1, b1, g1, g2, rfl⟩ := zipD_get l m i d hd
          obtain ⟨u1, hu1, ru1⟩ := s1.get g1
          obtain ⟨u2, hu2, ru2⟩ := s2.get g2
          refine ⟨⟨xs, ys, u1, u2, (gr_of hh2).sqT (e2.sqT q1), (gr_of hh2).sqT (e2.sqT q2), hu1, hu2⟩, ?_⟩
          rintro v H3 ⟨T, x, y, rfl, hT, rfl, hx, hy⟩
          have z := hx xs ((gr_of hh2).sqT (e2.sqT q1))
          rw [hu1] at z
          cases z
          have z := hy ys ((gr_of hh2).sqT (e2.sqT q2))
          rw [hu2] at z
          cases z
          obtain ⟨e3, h3⟩ := hh2.alloc (.tup [u1, u2]) hT
          exact ⟨_, e3, h3, .tup upd_same (.cons ((ru1.ext e2).ext e3) (.cons ((ru2.ext e2).ext e3) .nil))⟩
      · rcases itL_cases d1 S' with ⟨l, chk, el⟩ | el
        · rw [el] at p'
          rcases itL_cases d2 S' with ⟨m, chk2, em⟩ | em
          · simp only [Re.bind_ok, em] at p'
            obtain ⟨a, rfl, ⟨xs, hq⟩, hw⟩ := itL_rep r1 h' el
            obtain ⟨b, rfl, ⟨ys, hq2⟩, hw2⟩ := itL_rep r2 h' em
            refine ⟨a, b, xs, ys, rfl, .inl ⟨hq, hq2, PostG.ok p' h' fun i Φ2 F2 θ2 S2 H2 e2 hh2 hc => ?_⟩⟩
            obtain ⟨xs2, q1, s1⟩ := hw Φ2 F2 θ2 S2 H2 e2 hh2 hc.1
            obtain ⟨ys2, q2, s2⟩ := hw2 Φ2 F2 θ2 S2 H2 e2 hh2 hc.2
            refine ⟨fun hl => ?_, fun d hd => ?_⟩
            · have hl : (zipD l m).length ≤ i := hl
              rw [zipD_len] at hl
              exact ⟨xs2, ys2, q1, q2, by rw [s1.length, s2.length]; omega⟩
            · obtain ⟨a1, b1, g1, g2, rfl⟩ := zipD_get l m i d hd
              obtain ⟨u1, hu1, ru1⟩ := s1.get g1
              obtain ⟨u2, hu2, ru2⟩ := s2.get g2
              refine ⟨⟨xs2, ys2, u1, u2, q1, q2, hu1, hu2⟩, ?_⟩
              rintro v H3 ⟨T, x, y, rfl, hT, rfl, hx, hy⟩
              have z := hx xs2 q1
              rw [hu1] at z
              cases z
              have z := hy ys2 q2
              rw [hu2] at z
              cases z
              obtain ⟨e3, h3⟩ := hh2.alloc (.tup [u1, u2]) hT
              exact ⟨_, e3, h3, .tup upd_same (.cons (ru1.ext e3) (.cons (ru2.ext e3) .nil))⟩
          · simp only [Re.bind_ok, em] at p'
            exact p'.elim
        · rw [el] at p'
          exact p'.elim
    · exact p'.elim⟩
end
end DL

/-! The D layer, 10: list comprehensions. -/
namespace DL
open PySem PySem.Spec PyProof.Rows L2
section
variable {γ : Nat → Addr} {X : Cx} {W : WX} {N : List Str} {sc : Scope} {k : Nat} {pos : Pos}

/-! ### targets within a block: which slots they touch -/
def PostW (M : Ev) (Φ F : Hp) (θ : List Addr) (vs : List Nat) (σ : L2.St) (r : Option (En × Sto)) (Q : L2.St → Hp → Prop) : Prop := match r with
  | some (ρ, S) => ∀ σ' F' θ' H, Gr F F' θ θ' → EA M F' θ' σ' ρ → HA M Φ F' θ' S H → wipe σ' vs = wipe σ vs → Q σ' H
  | none => False
theorem PostW.ext {M : Ev} {Φ F F' : Hp} {θ θ' : List Addr} {vs : List Nat} {σ : L2.St} {r : Option (En × Sto)} {Q : L2.St → Hp → Prop} (e : Gr F F' θ θ') (h : PostW M Φ F θ vs σ r Q) : PostW M Φ F' θ' vs σ r Q := by
  cases r with
  | some x => exact fun σ F2 θ2 H g a b c => h σ F2 θ2 H (e.trans g) a b c
  | none => exact h
def wGt (M : Ev) (vs : List Nat) (g : Gt) : TG := fun v σ H Q => ∃ Φ ρ F θ S d, EA M F θ σ ρ ∧ HA M Φ F θ S H ∧ Rep M F θ v d ∧ PostW M Φ F θ vs σ (g d ρ S) Q
def wGts (M : Ev) (vs : List Nat) (g : Gts) : TGs := fun us σ H Q => ∃ Φ ρ F θ S ds, EA M F θ σ ρ ∧ HA M Φ F θ S H ∧ Reps M F θ us ds ∧ PostW M Φ F θ vs σ (g ds ρ S) Q
abbrev WG (γ : Nat → Addr) (X : Cx) (vs : List Nat) (tg : Expr) (g : Gt) : Prop := PG X tg (wGt ⟨X.K, γ⟩ vs g)
abbrev WGs (γ : Nat → Addr) (X : Cx) (vs : List Nat) (tgs : List Expr) (g : Gts) : Prop := PGs X tgs (wGts ⟨X.K, γ⟩ vs g)
theorem wipe_get {σ : L2.St} {i : Nat} : ∀ {vs : List Nat}, (wipe σ vs)[i]? = if i ∈ vs then (σ[i]?).map fun _ => none else σ[i]?
  | [] => by simp [wipe]
  | v :: vs => by
    unfold wipe
    by_cases h : v = i
    · subst h
      rw [if_pos (List.mem_cons_self ..)]
      by_cases hl : v < σ.length
      · rw [List.getElem?_set_self (by rw [wipe_length]; exact hl), List.getElem?_eq_getElem hl]; rfl
      · rw [List.getElem?_eq_none (by rw [List.length_set, wipe_length]; omega), List.getElem?_eq_none (by omega)]; rfl
    · rw [List.getElem?_set_ne h, wipe_get (vs := vs)]
      have e : (i ∈ v :: vs) = (i ∈ vs) := by simp [Ne.symm h]
      simp only [e]
theorem wipe_set {σ : L2.St} {vs : List Nat} {i : Nat} {x : Option V} (h : i ∈ vs) : wipe (σ.set i x) vs = wipe σ vs := by
  apply List.ext_getElem?
  intro j
  rw [wipe_get, wipe_get]
  by_cases hj : j ∈ vs
  · rw [if_pos hj, if_pos hj]
    by_cases e : i = j
    · subst e
      by_cases hl : i < σ.length
      · rw [List.getElem?_set_self hl, List.getElem?_eq_getElem hl]; rfl
      · rw [List.getElem?_eq_none (by rw [List.length_set]; omega), List.getElem?_eq_none (by omega)]
    · rw [List.getElem?_set_ne e]
  · rw [if_neg hj, if_neg hj, List.getElem?_set_ne (fun e => hj (by rw [← e]; exact h))]
theorem wipe_wipe (σ : L2.St) (vs : List Nat) : wipe (wipe σ vs) vs = wipe σ vs := by
  apply List.ext_getElem?
  intro j
  rw [wipe_get, wipe_get]
  by_cases hj : j ∈ vs
  · rw [if_pos hj, if_pos hj]
    cases σ[j]? <;> rfl
  · rw [if_neg hj, if_neg hj]
theorem Re.bind_assoc {α β δ : Type} (r : Re α) (f : α → Sto → Re β) (g : β → Sto → Re δ) : (r.bind f).bind g = r.bind fun a S => (f a S).bind g := by
  cases r <;> rfl
theorem wg_name (i : Nat) {vs : List Nat} {x : Str} (c : Ctx X W N sc k) (hv : i ∈ vs := by decide) (hi : N[i]? = some x := by rfl) (hx : Loc sc x := by first | exact Or.inl rfl | exact Or.inr rfl) (hf : X.fn x = true ∨ sc.names.lookup x = some .local := by first | exact .inr rfl | exact .inl rfl) : WG γ X vs (.Name x pos) (gN i) :=
  PG.weak (pg_name (i := i) (by rw [c.hN]; exact c.nd) (by rw [c.hN]; exact hi) (by rw [c.hsc]; exact hx) (by rw [c.hsc]; exact hf)) fun v σ H Q ⟨Φ, ρ, F, θ, S, d, ea, hh, r, p⟩ => p _ F θ H .rfl (ea.set i r) hh (wipe_set hv)
theorem wgs_nil {vs : List Nat} : WGs γ X vs [] gsNil := PGs.weak pgs_nil fun us σ H Q ⟨Φ, ρ, F, θ, S, ds, ea, hh, r, p⟩ => by
  cases r with
  | nil => exact ⟨rfl, p _ F θ H .rfl ea hh rfl⟩
  | cons _ _ => exact p.elim
theorem wgs_cons {vs : List Nat} {e : Expr} {es : List Expr} {g : Gt} {gs : Gts} (h1 : WG γ X vs e g) (h2 : WGs γ X vs es gs) (hs : (assignEach (e :: es) X.env).map (·.2) = assign e X.env :: (assignEach es X.env).map (·.2) := by rfl) : WGs γ X vs (e :: es) (gsCons g gs) :=
  PGs.weak (pgs_cons h1 h2 hs) fun us σ H Q ⟨Φ, ρ, F, θ, S, ds, ea, hh, r, p⟩ => by
    cases r with
    | nil => exact p.elim
    | @cons v d us ds r1 r2 =>
      refine ⟨_, _, rfl, Φ, ρ, F, θ, S, _, ea, hh, r1, ?_⟩
      have p : PostW _ Φ F θ vs σ (match g d ρ S with | some (ρ', S') => gs ds ρ' S' | none => none) _ := p
      revert p
      cases g d ρ S with
      | some x =>
        intro p σ' F' θ' H' e a b w1
        refine ⟨Φ, x.1, F', θ', x.2, ds, a, b, r2.ext e, ?_⟩
        have p := PostW.ext e p
        revert p
        simp only []
        cases gs ds x.1 x.2 with
        | some y => exact fun p σ2 F2 θ2 H2 e2 a2 b2 w2 => p σ2 F2 θ2 H2 e2 a2 b2 (w2.trans w1)
        | none => exact fun p => p
      | none => exact fun p => p
theorem wg_tup (n : Nat) {vs : List Nat} {es : List Expr} {k1 : Nat} {g : Gts} (c : Ctx X W N sc k) (h : WGs γ X vs es g) (hn : (assignEach es X.env).length = n := by rfl) (hst : (assignEach es X.env).findIdx? (·.1) = none := by rfl) : WG γ X vs (.Tuple es k1 pos) (gTp n g) :=
  PG.weak (pg_tup c.calm h hn hst) fun v σ H Q ⟨Φ, ρ, F, θ, S, d, ea, hh, r, p⟩ => by
    have fin : ∀ {a : Addr} {xs : List V} {ds : List Dv}, v = .ref a → SqT X.K H a xs → Reps ⟨X.K, γ⟩ F θ xs ds → PostW ⟨X.K, γ⟩ Φ F θ vs σ (if ds.length = n then g ds ρ S else none) Q → gTup X.K n (wGts ⟨X.K, γ⟩ vs g) v σ H Q := fun {a xs ds} e0 h1 h2 p => by
      by_cases hl : ds.length = n
      · rw [if_pos hl] at p
        exact ⟨_, _, e0, h1, by rw [h2.length]; exact hl, Φ, ρ, F, θ, S, _, ea, hh, h2, p⟩
      · rw [if_neg hl] at p; exact p.elim
    cases r with
    | @tup a xs ds h1 h2 => exact fin rfl (.inl (.inl (hh.sub _ _ h1))) h2 p
    | _ => exact p.elim

/-! ### the block -/
abbrev Wf : WX := fun _ _ _ _ => False
theorem Ctx.blk (c : Ctx X W N sc k) (s : Shared) (H : Hp) (scope : Scope) (C : Addr) (cl : List (Str × Addr)) (fp : List Addr) : Ctx (X.blk s H scope (compEnvC scope cl C X.env) fp) Wf N (relS scope sc) k where
  hN := c.hN
  hsc := by
    show relabel scope X.env = relS scope sc
    unfold relabel relS Env.kindOf
    rw [c.hsc]
  nd := c.nd
  calm := c.calm
  tk := takes0
  pw := PassesOwn.never
  gd := c.gd
  hr := c.hr
abbrev DTs (γ : Nat → Addr) (X : Cx) (W : WX) (ifs : List Expr) (f : Tt) : Prop := PTs X ifs (dG ⟨X.K, γ⟩ W (fun _ _ b a => b = a) f)
theorem PTs.weak {ifs : List Expr} {t u : TT} (h : PTs X ifs t) (kk : ∀ σ H Q, u σ H Q → t σ H Q) : PTs X ifs u := ⟨fun pins s σ H Q I q => h.run pins s σ H Q I (kk σ H Q q)⟩
def ttYes : Tt := fun _ S => .ok true S
theorem dts_nil : DTs γ X W [] ttYes := PTs.weak pts_nil fun σ H Q ⟨Φ, ρ, F, θ, S, ea, hh, p⟩ => PostG.ok p hh rfl
theorem dts_one {c : Expr} {t : Tt} (h : DTt γ X W c t) : DTs γ X W [c] t := pts_one h

def noexc {α : Type} : Re α → Re α
  | .exc _ _ _ => .bad
  | r => r
@[simp] theorem noexc_ok {α : Type} (a : α) (S : Sto) : noexc (Re.ok a S) = .ok a S := rfl
theorem PostG.calm {α β γ' δ : Type} {M : Ev} {Φ : Hp} {W : WX} {σ σ' : L2.St} {F : Hp} {θ : List Addr} {R0 : Hp → List Addr → β → α → Prop} {R : Hp → List Addr → δ → γ' → Prop} {r : Re α} {kk : α → Sto → Re γ'} {Q : δ → Hp → Prop} {Q' : β → Hp → Prop} (h : PostG M Φ W σ F θ R ((noexc r).bind kk) Q)
    (Φ' : Hp) (hk : ∀ a S', r = .ok a S' → PostG M Φ W σ F θ R (kk a S') Q → ∀ b F' θ' H', Gr F F' θ θ' → HA M Φ' F' θ' S' H' → R0 F' θ' b a → Q' b H') : PostG M Φ' Wf σ' F θ R0 r Q' := by
  cases r with
  | ok a S' => exact fun b F' θ' H' e h' r => hk a S' rfl h b F' θ' H' e h' r
  | exc c d S' => exact h.elim
  | bad => exact h.elim
/-- the frame beside: an object that is not ours is held -/
theorem HA.thaw {M : Ev} {Φ F : Hp} {θ : List Addr} {S : Sto} {H : Hp} {D : Addr} {o : HO} (h : HA M (upd Φ D o) F θ S H) (hD : Φ D = none) : Gr F (upd F D o) θ θ ∧ HA M Φ (upd F D o) θ S H := by
  obtain ⟨g1, g2, g3⟩ := h.fr D o upd_same
  have e : Gr F (upd F D o) θ θ := ⟨fun a u q => by rw [upd_ne (ne_of_none q g2)]; exact q, fun _ _ q => q⟩
  refine ⟨e, ⟨fun a u q => ?_, h.len, h.nd, h.trk, fun k a ob h1 h2 h3 => ?_, fun a u q => ?_⟩⟩
  · by_cases z : a = D
    · subst z; rw [upd_same] at q; cases q; exact g1
    · rw [upd_ne z] at q; exact h.sub _ _ q
  · obtain ⟨h4, o', h5, h6⟩ := h.live k a ob h1 h2 h3
    have z : a ≠ D := fun e => g3 (e ▸ List.mem_of_getElem? h1)
    exact ⟨by rw [upd_ne z]; exact h4, o', h5, h6.ext e⟩
  · have z := ne_of_none q hD
    obtain ⟨f1, f2, f3⟩ := h.fr a u (by rw [upd_ne z]; exact q)
    exact ⟨f1, by rw [upd_ne z]; exact f2, f3⟩
theorem HA.reframe {M : Ev} {Φ F : Hp} {θ : List Addr} {S : Sto} {H : Hp} {D : Addr} {o o' : HO} (h : HA M (upd Φ D o) F θ S H) : HA M (upd Φ D o') F θ S (upd H D o') := by
  obtain ⟨g1, g2, g3⟩ := h.fr D o upd_same
  refine ⟨fun a u q => ?_, h.len, h.nd, fun a ha => ?_, fun k a ob h1 h2 h3 => ?_, fun a u q => ?_⟩
  · rw [upd_ne (ne_of_none q g2)]; exact h.sub _ _ q
  · rw [upd_ne fun e => g3 (by rw [← e]; exact ha)]; exact h.trk a ha
  · obtain ⟨h4, o2, h5, h6⟩ := h.live k a ob h1 h2 h3
    have z : a ≠ D := fun e => g3 (by rw [← e]; exact List.mem_of_getElem? h1)
    exact ⟨h4, o2, by rw [upd_ne z]; exact h5, h6⟩
  · by_cases z : a = D
    · subst z
      rw [upd_same] at q ⊢
      exact ⟨q, g2, g3⟩
    · rw [upd_ne z] at q ⊢
      exact h.fr a u (by rw [upd_ne z]; exact q)
theorem HA.frame {M : Ev} {Φ F : Hp} {θ : List Addr} {S : Sto} {H : Hp} {D : Addr} (o : HO) (h : HA M Φ F θ S H) (hD : H D = none) : HA M (upd Φ D o) F θ S (upd H D o) := by
  have hF : F D = none := by
    cases q : F D with
    | none => rfl
    | some u => rw [h.sub _ _ q] at hD; cases hD
  have nt : ∀ a ∈ θ, a ≠ D := fun a ha z => h.trk a ha (z ▸ hD)
  refine ⟨fun a u q => ?_, h.len, h.nd, fun a ha => ?_, fun k a ob h1 h2 h3 => ?_, fun a u q => ?_⟩
  · rw [upd_ne (ne_of_none q hF)]; exact h.sub _ _ q
  · rw [upd_ne (nt a ha)]; exact h.trk a ha
  · obtain ⟨h4, o2, h5, h6⟩ := h.live k a ob h1 h2 h3
    exact ⟨h4, o2, by rw [upd_ne (nt a (List.mem_of_getElem? h1))]; exact h5, h6⟩
  · by_cases z : a = D
    · subst z
      rw [upd_same] at q ⊢
      exact ⟨q, hF, fun m => nt a m rfl⟩
    · rw [upd_ne z] at q ⊢
      exact h.fr a u q
theorem HA.noD {M : Ev} {Φ F : Hp} {θ : List Addr} {S : Sto} {H : Hp} {D : Addr} (h : HA M Φ F θ S H) (hD : H D = none) : Φ D = none := by
  cases q : Φ D with
  | none => rfl
  | some u => rw [(h.fr _ _ q).1] at hD; cases hD
def wipeE (ρ : En) : List Nat → En
  | [] => ρ
  | v :: vs => (wipeE ρ vs).set v none
theorem EA.wipe {M : Ev} {F : Hp} {θ : List Addr} {σ : L2.St} {ρ : En} (h : EA M F θ σ ρ) : ∀ vs : List Nat, EA M F θ (L2.wipe σ vs) (wipeE ρ vs)
  | [] => h
  | v :: vs => by
    obtain ⟨l, a⟩ := EA.wipe h vs
    refine ⟨by unfold L2.wipe wipeE; rw [List.length_set, List.length_set]; exact l, fun i d q => ?_⟩
    unfold wipeE at q
    by_cases e : v = i
    · subst e
      by_cases hl : v < (wipeE ρ vs).length
      · rw [List.getElem?_set_self hl] at q; cases q
      · rw [List.getElem?_eq_none (by rw [List.length_set]; omega)] at q; cases q
    · rw [List.getElem?_set_ne e] at q
      obtain ⟨v', h1, h2⟩ := a i d q
      refine ⟨v', ?_, h2⟩
      unfold L2.wipe
      rw [List.getElem?_set_ne e]
      exact h1
/-- one turn: an item is kept, or not -/
def turnD (g : Gt) (t : Tt) (e : Ex) (ρ : En) (d : Dv) (S : Sto) : Re (Option Dv) := match g d ρ S with
  | none => .bad
  | some (ρ1, S1) => (noexc (t ρ1 S1)).bind fun c S2 => if c = true then (noexc (e ρ1 S2)).bind fun y S3 => .ok (some y) S3 else .ok none S2
open Classical in
noncomputable def lcL (b : Dv → Sto → Re (Option Dv)) (chk : Sto → Prop) : List Dv → Sto → Re (List Dv)
  | [], S => .ok [] S
  | d :: r, S => (b d S).bind fun o S' => if chk S' then (lcL b chk r S').bind fun l S'' => .ok (o.toList ++ l) S'' else .bad
open Classical in
/-- the items of a comprehension -/
noncomputable def lcD (f : It') (g : Gt) (t : Tt) (e : Ex) (vs : List Nat) : Xs := fun ρ S => (f ρ S).bind fun x S1 => if x.2 S1 ∧ x.1.length ≤ sizeLine then lcL (turnD g t e (wipeE ρ vs)) x.2 x.1 S1 else .bad
noncomputable def eLc (f : It') (g : Gt) (t : Tt) (e : Ex) (vs : List Nat) : Ex := eN (fun l S => .ok (.lst l) S) (lcD f g t e vs)
noncomputable def eLcC (f : It') (g : Gt) (t : Tt) (e : Ex) (vs : List Nat) : Ex := eN (fun l S => .ok (.cell S.length) (S ++ [.lst l])) (lcD f g t e vs)
open Classical in
theorem lc_read {own : List (Str × Nat)} {f : It'} {g : Gt} {t : Tt} {e : Ex} {σ : L2.St} {H : Hp} {Q : VK} {fin : List Dv → Sto → Re Dv}
    (hfin : ∀ Φ F θ S H D acc l, HA ⟨X.K, γ⟩ (upd Φ D (.lst acc)) F θ S H → Φ D = none → Reps ⟨X.K, γ⟩ F θ acc l → PostG ⟨X.K, γ⟩ Φ W σ F θ (Rep ⟨X.K, γ⟩) (fin l S) Q → Q (.ref D) H)
    (h : dG ⟨X.K, γ⟩ W (Rep ⟨X.K, γ⟩) (eN fin (lcD f g t e (own.map (·.2)))) σ H Q) :
    tLc (dG ⟨X.K, γ⟩ W (Walks ⟨X.K, γ⟩) f) (wGt ⟨X.K, γ⟩ (own.map (·.2)) g) (dG ⟨X.K, γ⟩ Wf (fun _ _ b a => b = a) t) (dG ⟨X.K, γ⟩ Wf (Rep ⟨X.K, γ⟩) e) (own.map (·.2)) σ H Q := by
  obtain ⟨Φ, ρ, F, θ, S, ea, hh, p⟩ := h
  unfold eN lcD at p
  have p : PostG ⟨X.K, γ⟩ Φ W σ F θ (Rep ⟨X.K, γ⟩) ((f ρ S).bind fun x S1 => (if x.2 S1 ∧ x.1.length ≤ sizeLine then lcL (turnD g t e (wipeE ρ (own.map (·.2)))) x.2 x.1 S1 else .bad).bind fin) Q := by
    revert p
    cases f ρ S <;> exact fun p => p
  refine ⟨Φ, ρ, F, θ, S, ea, hh, PostG.seq p fun x S1 J F1 θ1 H1 _ e1 h1 wk p1 => ?_⟩
  intro D hD
  have hΦ := h1.noD hD
  have hc : x.2 S1 ∧ x.1.length ≤ sizeLine := by
    by_cases z : x.2 S1 ∧ x.1.length ≤ sizeLine
    · exact z
    · rw [if_neg z] at p1; exact p1.elim
  rw [if_pos hc] at p1
  generalize hb : turnD g t e (wipeE ρ (own.map (·.2))) = bt at p1
  refine ⟨fun i m H => m = x.1.length - i ∧ ∃ F2 θ2 S2 acc l, Gr F1 F2 θ1 θ2 ∧ HA ⟨X.K, γ⟩ (upd Φ D (.lst acc)) F2 θ2 S2 H ∧ Reps ⟨X.K, γ⟩ F2 θ2 acc l ∧ acc.length ≤ i ∧ x.2 S2 ∧
      PostG ⟨X.K, γ⟩ Φ W σ F2 θ2 (Rep ⟨X.K, γ⟩) ((lcL bt x.2 (x.1.drop i) S2).bind fun l2 S3 => fin (l ++ l2) S3) Q,
    ⟨x.1.length, by simp, F1, θ1, S1, [], [], .rfl, h1.frame _ hD, .nil, Nat.le_refl _, hc.1, by simpa using p1⟩, ?_⟩
  rintro i m H2 ⟨rfl, F2, θ2, S2, acc, l, e2, h2, ra, hl, hc2, p2⟩
  obtain ⟨wa, wb⟩ := wk i _ F2 θ2 S2 H2 e2 h2 hc2
  by_cases hlt : i < x.1.length
  · obtain ⟨go, yl⟩ := wb x.1[i] (by simp [hlt])
    rw [List.drop_eq_getElem_cons hlt] at p2
    unfold lcL at p2
    refine .inr ⟨go, fun H => ∃ F2 θ2 S2 acc l, Gr F1 F2 θ1 θ2 ∧ HA ⟨X.K, γ⟩ (upd Φ D (.lst acc)) F2 θ2 S2 H ∧ Reps ⟨X.K, γ⟩ F2 θ2 acc l ∧ acc.length ≤ i + 1 ∧ x.2 S2 ∧
      PostG ⟨X.K, γ⟩ Φ W σ F2 θ2 (Rep ⟨X.K, γ⟩) ((lcL bt x.2 (x.1.drop (i + 1)) S2).bind fun l2 S3 => fin (l ++ l2) S3) Q, fun H' q => ⟨x.1.length - (i + 1), by omega, rfl, q⟩, fun v H3 y => ?_⟩
    obtain ⟨F3, e3, h3, r3⟩ := yl v H3 y
    refine ⟨upd Φ D (.lst acc), wipeE ρ (own.map (·.2)), F3, θ2, S2, x.1[i], ((((ea.ext e1).ext e2).ext e3).wipe _), h3, r3, ?_⟩
    have p3 := PostG.ext e3 p2
    have hbd : bt x.1[i] S2 = turnD g t e (wipeE ρ (own.map (·.2))) x.1[i] S2 := by rw [hb]
    rw [hbd] at p3
    unfold turnD at p3
    revert p3
    cases g x.1[i] (wipeE ρ (own.map (·.2))) S2 with
    | none => exact fun p => p.elim
    | some z =>
      obtain ⟨ρ1, S4⟩ := z
      intro p3 σ4 F4 θ4 H4 e4 ea4 h4 hw
      refine ⟨by rw [hw]; exact wipe_wipe σ _, upd Φ D (.lst acc), ρ1, F4, θ4, S4, ea4, h4, ?_⟩
      have p4 := PostG.ext e4 p3
      simp only [Re.bind_assoc] at p4
      refine PostG.calm p4 _ fun c S5 _ p5 b F5 θ5 H5 e5 h5 rb => ?_
      cases rb
      have p5 := PostG.ext e5 p5
      cases c with
      | false =>
        simp only [if_false, Bool.false_eq_true, Re.bind_ok, Re.bind_assoc] at p5 ⊢
        by_cases hc5 : x.2 S5
        · rw [if_pos hc5] at p5
          refine ⟨F5, θ5, S5, acc, l, ((e2.trans e3).trans e4).trans e5, h5, ((ra.ext e3).ext e4).ext e5, by omega, hc5, ?_⟩
          simpa [Re.bind_assoc] using p5
        · rw [if_neg hc5] at p5; exact p5.elim
      | true =>
        simp only [if_true, Re.bind_ok, Re.bind_assoc] at p5 ⊢
        refine ⟨upd Φ D (.lst acc), ρ1, F5, θ5, S5, ea4.ext e5, h5, PostG.calm p5 _ fun y S6 _ p6 v6 F6 θ6 H6 e6 h6 r6 => ?_⟩
        refine ⟨acc, (h6.fr D _ upd_same).1, ?_, ?_⟩
        · have := hc.2
          omega
        · have p6 := PostG.ext e6 p6
          by_cases hc6 : x.2 S6
          · rw [if_pos hc6] at p6
            refine ⟨F6, θ6, S6, acc ++ [v6], l ++ [y], (((e2.trans e3).trans e4).trans e5).trans e6, h6.reframe, ((((ra.ext e3).ext e4).ext e5).ext e6).append (.cons r6 .nil), by rw [List.length_append, List.length_singleton]; omega, hc6, ?_⟩
            simpa [Re.bind_assoc] using p6
          · rw [if_neg hc6] at p6; exact p6.elim
  · refine .inl ⟨wa (by omega), ?_⟩
    rw [List.drop_eq_nil_of_le (by omega)] at p2
    exact hfin Φ F2 θ2 S2 H2 D acc l h2 hΦ ra (by simpa [lcL] using p2)
/-- the frame's object becomes a cell -/
theorem HA.adopt {M : Ev} {Φ F : Hp} {θ : List Addr} {S : Sto} {H : Hp} {D : Addr} {o : HO} {ob : Ob} (h : HA M (upd Φ D o) F θ S H) (hD : Φ D = none) (r : RepO M F θ o ob) : Gr F F θ (θ ++ [D]) ∧ HA M Φ F (θ ++ [D]) (S ++ [ob]) H := by
  obtain ⟨g1, g2, g3⟩ := h.fr D o upd_same
  have e : Gr F F θ (θ ++ [D]) := ⟨fun _ _ q => q, fun k a q => by
    have := (List.getElem?_eq_some_iff.mp q).1
    rw [List.getElem?_append_left this]; exact q⟩
  refine ⟨e, ⟨h.sub, by simp [h.len], ?_, fun a ha => ?_, fun k a ob' h1 h2 h3 => ?_, fun a u q => ?_⟩⟩
  · rw [List.nodup_append]
    refine ⟨h.nd, by simp, fun a ha b hb => ?_⟩
    have : b = D := by simpa using hb
    subst this
    exact fun e => g3 (by rw [← e]; exact ha)
  · rcases List.mem_append.mp ha with q | q
    · exact h.trk a q
    · have : a = D := by simpa using q
      subst this
      rw [g1]; exact fun z => nomatch z
  · by_cases hk : k < θ.length
    · rw [List.getElem?_append_left hk] at h1
      rw [List.getElem?_append_left (by rw [← h.len]; exact hk)] at h2
      obtain ⟨h4, o', h5, h6⟩ := h.live k a ob' h1 h2 h3
      exact ⟨h4, o', h5, h6.ext e⟩
    · have hk2 : k = θ.length := by
        have := (List.getElem?_eq_some_iff.mp h1).1
        rw [List.length_append, List.length_singleton] at this
        omega
      subst hk2
      rw [List.getElem?_append_right (Nat.le_refl _), Nat.sub_self] at h1
      rw [h.len, List.getElem?_append_right (Nat.le_refl _), Nat.sub_self] at h2
      cases h1
      cases h2
      exact ⟨g2, o, g1, r.ext e⟩
  · have z := ne_of_none q hD
    obtain ⟨f1, f2, f3⟩ := h.fr a u (by rw [upd_ne z]; exact q)
    exact ⟨f1, f2, fun m => (List.mem_append.mp m).elim f3 fun m => z (by simpa using m)⟩
theorem fin_lst {σ : L2.St} {Q : VK} : ∀ Φ F θ S H D acc l, HA ⟨X.K, γ⟩ (upd Φ D (.lst acc)) F θ S H → Φ D = none → Reps ⟨X.K, γ⟩ F θ acc l → PostG ⟨X.K, γ⟩ Φ W σ F θ (Rep ⟨X.K, γ⟩) ((fun l S => Re.ok (Dv.lst l) S) l S) Q → Q (.ref D) H := fun Φ F θ S H D acc l h hD r p => by
  obtain ⟨e, h'⟩ := h.thaw hD
  exact p _ _ _ _ e h' (.lst upd_same (r.ext e))
theorem fin_cell {σ : L2.St} {Q : VK} : ∀ Φ F θ S H D acc l, HA ⟨X.K, γ⟩ (upd Φ D (.lst acc)) F θ S H → Φ D = none → Reps ⟨X.K, γ⟩ F θ acc l → PostG ⟨X.K, γ⟩ Φ W σ F θ (Rep ⟨X.K, γ⟩) ((fun l S => Re.ok (Dv.cell (List.length S)) (S ++ [Ob.lst l])) l S) Q → Q (.ref D) H := fun Φ F θ S H D acc l h hD r p => by
  obtain ⟨e, h'⟩ := h.adopt (ob := .lst l) hD r
  refine p _ _ _ _ e h' (.cell ?_)
  rw [← h.len, List.getElem?_append_right (Nat.le_refl _), Nat.sub_self]
  rfl
section
variable {tg elt iter : Expr} {ifs : List Expr} {scope : Scope} {f : It'} {g : Gt} {t : Tt} {e : Ex}
theorem de_lc (own : List (Str × Nat)) (c : Ctx X W N sc k) (hi : DI γ X W tg iter f) (ok : blkC N sc scope own = true)
    (hg : ∀ (s : Shared) (H : Hp) (C : Addr) (cl : List (Str × Addr)) (fp : List Addr), WG γ (X.blk s H scope (compEnvC scope cl C X.env) fp) (own.map (·.2)) tg g)
    (ht : ∀ (s : Shared) (H : Hp) (C : Addr) (cl : List (Str × Addr)) (fp : List Addr), DTs γ (X.blk s H scope (compEnvC scope cl C X.env) fp) Wf ifs t)
    (he : ∀ (s : Shared) (H : Hp) (C : Addr) (cl : List (Str × Addr)) (fp : List Addr), DE γ (X.blk s H scope (compEnvC scope cl C X.env) fp) Wf elt e) (hs : ∀ x, foldedSetIterable iter X.env x = pure x := by intro _; rfl) :
    DE γ X W (.ListComp elt [⟨tg, iter, ifs, 0⟩] scope pos) (eLc f g t e (own.map (·.2))) :=
  PE.weak (pe_lc (own := own) c.calm (by rw [c.hN]; exact c.nd) hi (by rw [c.hN, c.hsc]; exact blkOk_by ok) hg ht he hs) fun σ H Q h => lc_read fin_lst h
theorem de_lcC (own : List (Str × Nat)) (c : Ctx X W N sc k) (hi : DI γ X W tg iter f) (ok : blkC N sc scope own = true)
    (hg : ∀ (s : Shared) (H : Hp) (C : Addr) (cl : List (Str × Addr)) (fp : List Addr), WG γ (X.blk s H scope (compEnvC scope cl C X.env) fp) (own.map (·.2)) tg g)
    (ht : ∀ (s : Shared) (H : Hp) (C : Addr) (cl : List (Str × Addr)) (fp : List Addr), DTs γ (X.blk s H scope (compEnvC scope cl C X.env) fp) Wf ifs t)
    (he : ∀ (s : Shared) (H : Hp) (C : Addr) (cl : List (Str × Addr)) (fp : List Addr), DE γ (X.blk s H scope (compEnvC scope cl C X.env) fp) Wf elt e) (hs : ∀ x, foldedSetIterable iter X.env x = pure x := by intro _; rfl) :
    DE γ X W (.ListComp elt [⟨tg, iter, ifs, 0⟩] scope pos) (eLcC f g t e (own.map (·.2))) :=
  PE.weak (pe_lc (own := own) c.calm (by rw [c.hN]; exact c.nd) hi (by rw [c.hN, c.hsc]; exact blkOk_by ok) hg ht he hs) fun σ H Q h => lc_read fin_cell h
theorem set_read {i : Nat} {fe : Ex} {te : TE} (hr : ∀ σ H Q, dG ⟨X.K, γ⟩ W (Rep ⟨X.K, γ⟩) fe σ H Q → te σ H Q) : ∀ D σ H, dS ⟨X.K, γ⟩ W (sSet i fe) D σ H → tAsg te (gName i) D σ H := fun D σ H ⟨Φ, ρ, F, θ, S, ea, hh, p⟩ =>
  hr σ H _ ⟨Φ, ρ, F, θ, S, ea, hh, PostS.seq ea p fun d S' v F' θ' H' _ e h' r p' => p' _ F' θ' H' .rfl ((ea.ext e).set i r) h'⟩
theorem ds_setLc (i : Nat) (own : List (Str × Nat)) {y : Str} {py spos : Pos} (c : CtxD X W N sc k) (hi : DI γ X W tg iter f) (ok : blkC N sc scope own = true)
    (hsw : swapsWith (.ListComp elt [⟨tg, iter, ifs, 0⟩] scope pos) (some (.Name y py)) spos.line X.env = pure true)
    (hg : ∀ (s : Shared) (H : Hp) (C : Addr) (cl : List (Str × Addr)) (fp : List Addr), WG γ (X.blk s H scope (compEnvC scope cl C X.env) fp) (own.map (·.2)) tg g)
    (ht : ∀ (s : Shared) (H : Hp) (C : Addr) (cl : List (Str × Addr)) (fp : List Addr), DTs γ (X.blk s H scope (compEnvC scope cl C X.env) fp) Wf ifs t)
    (he : ∀ (s : Shared) (H : Hp) (C : Addr) (cl : List (Str × Addr)) (fp : List Addr), DE γ (X.blk s H scope (compEnvC scope cl C X.env) fp) Wf elt e) (hy : N[i]? = some y := by rfl) (hyl : sc.names.lookup y = some .local := by rfl)
    (hs : ∀ x, foldedSetIterable iter X.env x = pure x := by intro _; rfl) :
    DS γ X W (.Assign [.Name y py] (.ListComp elt [⟨tg, iter, ifs, 0⟩] scope pos) spos) (sSet i (eLc f g t e (own.map (·.2)))) :=
  PS.weak (ps_setLc (i := i) (own := own) c.calm (by rw [c.hN]; exact c.nd) (by rw [c.hN]; exact hy) (by rw [c.hsc]; exact hyl) hsw hi (by rw [c.hN, c.hsc]; exact blkOk_by ok) hg ht he hs) (set_read fun σ H Q h => lc_read fin_lst h)
theorem ds_setLcC (i : Nat) (own : List (Str × Nat)) {y : Str} {py spos : Pos} (c : CtxD X W N sc k) (hi : DI γ X W tg iter f) (ok : blkC N sc scope own = true)
    (hsw : swapsWith (.ListComp elt [⟨tg, iter, ifs, 0⟩] scope pos) (some (.Name y py)) spos.line X.env = pure true)
    (hg : ∀ (s : Shared) (H : Hp) (C : Addr) (cl : List (Str × Addr)) (fp : List Addr), WG γ (X.blk s H scope (compEnvC scope cl C X.env) fp) (own.map (·.2)) tg g)
    (ht : ∀ (s : Shared) (H : Hp) (C : Addr) (cl : List (Str × Addr)) (fp : List Addr), DTs γ (X.blk s H scope (compEnvC scope cl C X.env) fp) Wf ifs t)
    (he : ∀ (s : Shared) (H : Hp) (C : Addr) (cl : List (Str × Addr)) (fp : List Addr), DE γ (X.blk s H scope (compEnvC scope cl C X.env) fp) Wf elt e) (hy : N[i]? = some y := by rfl) (hyl : sc.names.lookup y = some .local := by rfl)
    (hs : ∀ x, foldedSetIterable iter X.env x = pure x := by intro _; rfl) :
    DS γ X W (.Assign [.Name y py] (.ListComp elt [⟨tg, iter, ifs, 0⟩] scope pos) spos) (sSet i (eLcC f g t e (own.map (·.2)))) :=
  PS.weak (ps_setLc (i := i) (own := own) c.calm (by rw [c.hN]; exact c.nd) (by rw [c.hN]; exact hy) (by rw [c.hsc]; exact hyl) hsw hi (by rw [c.hN, c.hsc]; exact blkOk_by ok) hg ht he hs) (set_read fun σ H Q h => lc_read fin_cell h)
theorem sw_ok {gs : List Comprehension} {y : Str} {py : Pos} {l : Nat} (c : Ctx X W N sc k) (hk : sc.kind = .function := by rfl) (hy : sc.names.lookup y = some .local := by rfl) (hl : (py.line == pos.line) = true := by rfl)
    (ha : (scope.names.any fun (n, k) => n == y && (k == .local || k == .cell)) = false := by rfl) : swapsWith (.ListComp elt gs scope pos) (some (.Name y py)) l X.env = pure true :=
  sw_true (by rw [c.hsc]; exact hk) (by rw [c.hsc]; exact hy) hl ha
/-- the name is captured, or the comprehension's own: an ordinary store -/
theorem sw_no {gs : List Comprehension} {y : Str} {py : Pos} {l : Nat} (c : Ctx X W N sc k) (h : (sc.names.lookup y == some .local && !(scope.names.any fun (n, k) => n == y && (k == .local || k == .cell))) = false := by rfl) : swapsWith (.ListComp elt gs scope pos) (some (.Name y py)) l X.env = pure false := by
  have e : X.env.kindOf y = sc.names.lookup y := by unfold Env.kindOf; rw [c.hsc]
  unfold swapsWith
  simp only [e]
  cases h1 : (sc.names.lookup y == some NameKind.local) with
  | false => simp
  | true =>
    rw [h1, Bool.true_and] at h
    simp [h]
end
end
end DL

/-! The D layer, 11: attributes, methods, properties. -/
namespace DL
open PySem PySem.Spec PyProof.Rows L2

def insOf (S : Sto) : Dv → Option (Nat × List (Str × Dv))
  | .ins c fs => some (c, fs)
  | .cell k => match S[k]? with
    | some (.ins c fs) => some (c, fs)
    | _ => none
  | _ => none
theorem insOf_rep {M : Ev} {Φ F : Hp} {θ : List Addr} {S : Sto} {H : Hp} {v : V} {d : Dv} {c : Nat} {fs : List (Str × Dv)} (hh : HA M Φ F θ S H) (r : Rep M F θ v d) (e : insOf S d = some (c, fs)) : ∃ a dx gs, v = .ref a ∧ H a = some (.ins (M.γ c) dx gs) ∧ RepF M F θ gs fs := by
  cases r with
  | ins h r =>
    simp only [insOf, Option.some.injEq, Prod.mk.injEq] at e
    obtain ⟨rfl, rfl⟩ := e
    exact ⟨_, _, _, rfl, hh.sub _ _ h, r⟩
  | @cell k a h =>
    simp only [insOf] at e
    split at e
    · rename_i c' fs' hS
      cases e
      obtain ⟨_, o, h5, h6⟩ := hh.live k a _ h hS (by intro z; cases z)
      cases o <;> first | exact h6.elim | skip
      obtain ⟨rfl, h6⟩ := h6
      exact ⟨_, _, _, rfl, h5, h6⟩
    · cases e
  | _ => simp [insOf] at e
/-- an attribute read -/
def fldD (c : Nat) (f : Str) (d : Dv) (S : Sto) : Re Dv := match insOf S d with
  | some (c', fs) => if c' = c then (match fs.lookup f with
    | some x => .ok x S
    | none => .bad) else .bad
  | none => .bad
def isIns (c : Nat) (m : Str) (S : Sto) (d : Dv) : Bool := match insOf S d with
  | some (c', fs) => decide (c' = c) && (fs.lookup m).isNone
  | none => false
theorem isIns_rep {M : Ev} {Φ F : Hp} {θ : List Addr} {S : Sto} {H : Hp} {v : V} {d : Dv} {c : Nat} {m : Str} (hh : HA M Φ F θ S H) (r : Rep M F θ v d) (e : isIns c m S d = true) : ∃ a dx gs, v = .ref a ∧ H a = some (.ins (M.γ c) dx gs) ∧ gs.lookup m = none := by
  unfold isIns at e
  cases h : insOf S d with
  | none => rw [h] at e; cases e
  | some p =>
    obtain ⟨c', fs⟩ := p
    rw [h] at e
    simp only [Bool.and_eq_true, decide_eq_true_eq, Option.isNone_iff_eq_none] at e
    obtain ⟨rfl, e⟩ := e
    obtain ⟨a, dx, gs, rfl, ha, rf⟩ := insOf_rep hh r h
    exact ⟨a, dx, gs, rfl, ha, (rf.lookup m).2 e⟩
section
variable {γ : Nat → Addr} {X : Cx} {W : WX} {N : List Str} {sc : Scope} {k : Nat} {pos : Pos}
theorem fldD_post {M : Ev} {Φ F : Hp} {θ : List Addr} {S : Sto} {H : Hp} {σ : L2.St} {v : V} {d : Dv} {c : Nat} {f : Str} {Q : VK} (hh : HA M Φ F θ S H) (r : Rep M F θ v d) (p : PostG M Φ W σ F θ (Rep M) (fldD c f d S) Q) :
    ∃ a dx gs x, v = .ref a ∧ H a = some (.ins (M.γ c) dx gs) ∧ gs.lookup f = some x ∧ Q x H := by
  unfold fldD at p
  cases h : insOf S d with
  | none => rw [h] at p; exact p.elim
  | some q =>
    obtain ⟨c', fs⟩ := q
    rw [h] at p
    obtain ⟨rfl, p1⟩ := post_if p
    obtain ⟨a, dx, gs, rfl, ha, rf⟩ := insOf_rep hh r h
    cases hl : fs.lookup f with
    | none => rw [hl] at p1; exact p1.elim
    | some x =>
      rw [hl] at p1
      obtain ⟨y, hy, ry⟩ := (rf.lookup f).1 x hl
      exact ⟨a, dx, gs, y, rfl, ha, hy, p1.ok hh ry⟩
theorem de_fld (cc : Nat) {e : Expr} {f : Str} {fa : Ex} (cl : Cls X.K (γ cc)) (n : NoAttr X.K (γ cc) f) (h : DE γ X W e fa) (hb : attributeBase e f X.env (eval e X.env) = eval e X.env := by rfl) : DE γ X W (.Attribute e f pos) (e1 (fldD cc f) fa) :=
  PE.weak (pe_fld h hb) fun σ H Q ⟨Φ, ρ, F, θ, S, ea, hh, p⟩ => ⟨Φ, ρ, F, θ, S, ea, hh, PostG.seq p fun d S' v F' θ' H' _ e h' r p' => by
    obtain ⟨a, dx, gs, x, rfl, ha, hl, q⟩ := fldD_post h' r p'
    exact ⟨a, γ cc, dx, gs, x, rfl, ha, cl, n, hl, q⟩⟩
/-- o.f = value, o in a cell -/
def sFldD (c : Nat) (f : Str) (a v : Ex) : Sm := fun ρ S => (v ρ S).toS ρ fun y S1 => (a ρ S1).toS ρ fun d S2 => match d with
  | .cell k => match S2[k]? with
    | some (.ins c' fs) => if c' = c ∧ fs.length < 1000 then .nx ρ (S2.set k (.ins c (putD f y fs))) else .bad
    | _ => .bad
  | _ => .bad
theorem ds_fld (cc : Nat) {o value : Expr} {f : Str} {fa fv : Ex} {pos' : Pos} (cl : Cls X.K (γ cc)) (n : NoAttr X.K (γ cc) f) (ha : DE γ X W o fa) (hv : DE γ X W value fv) (hs : swapsWith value (some (.Attribute o f pos')) pos.line X.env = pure false := by rfl) :
    DS γ X W (.Assign [.Attribute o f pos'] value pos) (sFldD cc f fa fv) :=
  PS.weak (ps_fld ha hv hs) fun D σ H ⟨Φ, ρ, F, θ, S, ea, hh, p⟩ => ⟨Φ, ρ, F, θ, S, ea, hh, PostS.seq ea p fun y S1 u F1 θ1 H1 _ g1 h1 ry p1 => ⟨Φ, ρ, F1, θ1, S1, ea.ext g1, h1, PostS.seq (ea.ext g1) p1 fun d S2 v F2 θ2 H2 _ g2 h2 r p2 => by
    cases r with
    | @cell kk a hk =>
      dsimp only at p2
      cases hS : S2[kk]? with
      | none => rw [hS] at p2; exact p2.elim
      | some ob =>
        cases ob with
        | ins c' fs =>
          rw [hS] at p2
          dsimp only at p2
          obtain ⟨⟨rfl, hl⟩, p2⟩ := postS_if p2
          obtain ⟨_, o, h5, h6⟩ := h2.live kk a _ hk hS (by intro z; cases z)
          cases o <;> first | exact h6.elim | skip
          obtain ⟨rfl, h6⟩ := h6
          refine ⟨a, _, _, _, rfl, h5, cl, n, by rw [h6.length]; exact hl, ?_⟩
          exact p2 σ F2 θ2 _ .rfl ((ea.ext g1).ext g2) (h2.setCell hk hS (by intro z; cases z) ⟨rfl, h6.put (ry.ext g2)⟩)
        | _ => rw [hS] at p2; exact p2.elim
    | _ => exact p2.elim⟩⟩

/-! ### calls with keywords -/
def pick {α : Type} (perm : List Nat) (l : List α) : List α := perm.filterMap fun i => l[i]?
theorem pick_reps {M : Ev} {F : Hp} {θ : List Addr} {vs : List V} {ds : List Dv} (r : Reps M F θ vs ds) : ∀ perm : List Nat, Reps M F θ (pick perm vs) (pick perm ds)
  | [] => .nil
  | i :: q => by
    unfold pick
    rw [List.filterMap_cons, List.filterMap_cons]
    cases h : ds[i]? with
    | none =>
      have : vs[i]? = none := by
        rw [List.getElem?_eq_none_iff] at h ⊢
        rw [r.length]; exact h
      rw [this]
      exact pick_reps r q
    | some d =>
      obtain ⟨v, hv, rv⟩ := r.get h
      rw [hv]
      exact .cons rv (pick_reps r q)
theorem pick_vals {vs : List V} {us : List Value} (r : Vals vs us) : ∀ perm : List Nat, Vals (pick perm vs) (pick perm us)
  | [] => .nil
  | i :: q => by
    unfold pick
    rw [List.filterMap_cons, List.filterMap_cons]
    cases h : vs[i]? with
    | none =>
      have : us[i]? = none := by
        rw [List.getElem?_eq_none_iff] at h ⊢
        rw [← r.length]; exact h
      rw [this]
      exact pick_vals r q
    | some d =>
      obtain ⟨u, hu, ru⟩ := r.get h
      rw [hu]
      exact .cons ru (pick_vals r q)
/-- n positional values, keywords ks: where they go -/
def KB (K : PySem.W.Frag) (fd : FuncData) (ps : List Str) (n : Nat) (ks : List Str) (perm : List Nat) : Prop :=
  ∀ (s : Shared) (us ws : List Value), K.In s.heap → us.length = n → ws.length = ks.length → BindsTo s fd ⟨us, ks.zip ws⟩ (ps.zip (pick perm (us ++ ws)))
/-- calling the value u with n values and the keywords ks behaves as g -/
def CallK (γ : Nat → Addr) (X : Cx) (W : WX) (u : Value) (n : Nat) (ks : List Str) (g : List Dv → List Dv → Sto → Re Dv) : Prop :=
  ∀ (pins : List (Addr × Obj)) (s : Shared) (σ : L2.St) (H : Hp) (vs zs : List V) (us ws : List Value) (Q : VK) (Φ F : Hp) (θ : List Addr) (S : Sto) (ds es : List Dv), Inv X pins σ H s → Vals vs us → Vals zs ws → Reps ⟨X.K, γ⟩ F θ vs ds → Reps ⟨X.K, γ⟩ F θ zs es → HA ⟨X.K, γ⟩ Φ F θ S H → ds.length = n → es.length = ks.length →
    PostG ⟨X.K, γ⟩ Φ W σ F θ (Rep ⟨X.K, γ⟩) (g ds es S) Q → wpAny (model X.prog X.w) X.A (call u us (ks.zip ws)) (EP X pins σ Q) X.xe s
theorem callV_fn {j n : Nat} {f : Addr} {fd : FuncData} {ps : List Str} {g : Fn} (F : FnG X.prog X.w X.K X.mg X.base j f fd ps (spD ⟨X.K, γ⟩ n g)) (hb : Binds X.K fd ps []) (hr : Room j X.A) (hg : X.A.guards = some []) (tk : Takes X W) : CallV γ X W (.ref f) n g := by
  intro pins s σ H vs us Q Φ F0 θ S ds I rv rd hh hl p
  have hsp : spD ⟨X.K, γ⟩ n g vs H Q (fun c d H' => W c d σ H') := ⟨by rw [rd.length]; exact hl, ds, Φ, F0, θ, S, rd, hh, by
    revert p
    cases g ds S with
    | ok d S' => exact fun p => p
    | exc c d S' => exact fun p => p
    | bad => exact fun p => p⟩
  have hl2 : us.length = ps.length := by rw [← rv.length]; exact F.len _ _ _ _ hsp
  have hb' := hb s us I.kIn (by rw [List.append_nil]; exact hl2)
  rw [List.append_nil] at hb'
  refine wpAny_call (codeAny_mono (F.run X.A X.stack s H ⟨us, []⟩ us vs Q _ hr hg I.env0 hb' rv hsp) fun r s' hq => ?_)
  cases r with
  | error e => exact tk e s' (XE.of_call I (fun cls d H' h => h) hq)
  | ok fl =>
    cases fl with
    | ret u => exact I.after hq
    | next => exact False.elim hq
    | brk => exact False.elim hq
    | cont => exact False.elim hq
theorem callK_fn {j n m : Nat} {f : Addr} {fd : FuncData} {ps ks : List Str} {perm : List Nat} {g : Fn} (F : FnG X.prog X.w X.K X.mg X.base j f fd ps (spD ⟨X.K, γ⟩ n g)) (hb : KB X.K fd ps m ks perm) (hn : perm.length = n) (hp : ∀ i ∈ perm, i < m + ks.length) (hr : Room j X.A) (hg : X.A.guards = some []) (tk : Takes X W) :
    CallK γ X W (.ref f) m ks (fun ds es S => g (pick perm (ds ++ es)) S) := by
  intro pins s σ H vs zs us ws Q Φ F0 θ S ds es I rv rz rd re hh hl hl2 p
  have rA : Reps ⟨X.K, γ⟩ F0 θ (pick perm (vs ++ zs)) (pick perm (ds ++ es)) := pick_reps (rd.append re) perm
  have vA : Vals (pick perm (vs ++ zs)) (pick perm (us ++ ws)) := pick_vals (rv.append rz) perm
  have hlen : ∀ (l : List Dv), l.length = m + ks.length → (pick perm l).length = n := by
    intro l hl
    rw [← hn]
    unfold pick
    have : ∀ q : List Nat, (∀ i ∈ q, i < m + ks.length) → (q.filterMap fun i => l[i]?).length = q.length := by
      intro q
      induction q with
      | nil => intro _; rfl
      | cons i q ih =>
        intro h
        have hi : i < l.length := by rw [hl]; exact h i List.mem_cons_self
        rw [List.filterMap_cons, List.getElem?_eq_getElem hi]
        simp only [List.length_cons]
        rw [ih fun j hj => h j (List.mem_cons_of_mem _ hj)]
    exact this perm hp
  have hsp : spD ⟨X.K, γ⟩ n g (pick perm (vs ++ zs)) H Q (fun c d H' => W c d σ H') := ⟨by rw [rA.length]; exact hlen _ (by rw [List.length_append, hl, hl2]), _, Φ, F0, θ, S, rA, hh, by
    replace p : PostG ⟨X.K, γ⟩ Φ W σ F0 θ (Rep ⟨X.K, γ⟩) (g (pick perm (ds ++ es)) S) Q := p
    revert p
    cases g (pick perm (ds ++ es)) S with
    | ok d S' => exact fun p => p
    | exc c d S' => exact fun p => p
    | bad => exact fun p => p⟩
  have hb' := hb s us ws I.kIn (by rw [← rv.length, rd.length]; exact hl) (by rw [← rz.length, re.length]; exact hl2)
  refine wpAny_call (codeAny_mono (F.run X.A X.stack s H ⟨us, ks.zip ws⟩ _ _ Q _ hr hg I.env0 hb' vA hsp) fun r s' hq => ?_)
  cases r with
  | error e => exact tk e s' (XE.of_call I (fun cls d H' h => h) hq)
  | ok fl =>
    cases fl with
    | ret u => exact I.after hq
    | next => exact False.elim hq
    | brk => exact False.elim hq
    | cont => exact False.elim hq
end

/-- the method m of the class c, called with n arguments behind the instance -/
structure Mth (γ : Nat → Addr) (P : Program) (w : World) (K : PySem.W.Frag) (mg : Str → Option Value) (base : Heap) (c : Nat) (m : Str) (j n : Nat) (g : Fn) : Prop where
  ex : ∃ f : Addr, Cls K (γ c) ∧ Meth K (γ c) m f ∧ ∀ (X : Cx) (W : WX), X.prog = P → X.w = w → X.K = K → X.mg = mg → X.base = base → Room j X.A → X.A.guards = some [] → Takes X W → CallV γ X W (.ref f) (n + 1) g
/-- .. and keywords -/
structure MthK (γ : Nat → Addr) (P : Program) (w : World) (K : PySem.W.Frag) (mg : Str → Option Value) (base : Heap) (c : Nat) (m : Str) (j n : Nat) (ks : List Str) (g : List Dv → List Dv → Sto → Re Dv) : Prop where
  ex : ∃ f : Addr, Cls K (γ c) ∧ Meth K (γ c) m f ∧ ∀ (X : Cx) (W : WX), X.prog = P → X.w = w → X.K = K → X.mg = mg → X.base = base → Room j X.A → X.A.guards = some [] → Takes X W → CallK γ X W (.ref f) (n + 1) ks g
section
variable {γ : Nat → Addr} {P : Program} {w : World} {K : PySem.W.Frag} {mg : Str → Option Value} {base : Heap} {c j n : Nat} {m : Str} {g g' : Fn}
theorem Mth.of {f : Addr} {fd : FuncData} {ps : List Str} (F : FnG P w K mg base j f fd ps (spD ⟨K, γ⟩ (n + 1) g)) (cl : Cls K (γ c)) (hm : Meth K (γ c) m f) (hb : Binds K fd ps []) : Mth γ P w K mg base c m j n g :=
  ⟨f, cl, hm, by rintro X W rfl rfl rfl rfl rfl hr hg tk; exact callV_fn F hb hr hg tk⟩
theorem MthK.of {n m' : Nat} {f : Addr} {fd : FuncData} {ps ks : List Str} {perm : List Nat} (F : FnG P w K mg base j f fd ps (spD ⟨K, γ⟩ m' g)) (cl : Cls K (γ c)) (hm : Meth K (γ c) m f) (hb : KB K fd ps (n + 1) ks perm) (hn : perm.length = m') (hp : ∀ i ∈ perm, i < (n + 1) + ks.length) :
    MthK γ P w K mg base c m j n ks (fun ds es S => g (pick perm (ds ++ es)) S) :=
  ⟨f, cl, hm, by rintro X W rfl rfl rfl rfl rfl hr hg tk; exact callK_fn F hb hn hp hr hg tk⟩
end
/-- a property of the class c -/
structure Prp (γ : Nat → Addr) (P : Program) (w : World) (K : PySem.W.Frag) (mg : Str → Option Value) (base : Heap) (c : Nat) (f : Str) (j : Nat) (g : Fn) : Prop where
  ex : ∃ (p a : Addr) (fd : FuncData) (ps : List Str), Cls K (γ c) ∧ PropOf K (γ c) f p a ∧ Binds K fd ps [] ∧ FnG P w K mg base j a fd ps (spD ⟨K, γ⟩ 1 g)
section
variable {γ : Nat → Addr} {X : Cx} {W : WX} {N : List Str} {sc : Scope} {k : Nat} {pos apos : Pos}
def eMth (c : Nat) (m : Str) (n : Nat) (g : Fn) (a : Ex) (as : Xs) : Ex := fun ρ S => (a ρ S).bind fun d S1 => if isIns c m S1 d = true then (as ρ S1).bind fun ds S2 => if ds.length = n then g (d :: ds) S2 else .bad else .bad
theorem de_meth {cc j n : Nat} {m : Str} {g : Fn} {o e : Expr} {es : List Expr} {fo : Ex} {fa : Xs} {pl : Sem Bool} (c : Ctx X W N sc k) (h : Mth γ X.prog X.w X.K X.mg X.base cc m j n g) (hj : j ≤ k := by decide) (ho : DE γ X W o fo) (ha : DAs γ X W (e :: es) fa)
    (hst : starEach (e :: es) X.env = (false, eval e X.env) :: starEach es X.env := by rfl) (hpl : (backTo pos (starEach es X.env)).any (·.1) = false := by rfl)
    (ht : eval (.Call (.Attribute o m apos) (e :: es) [] pos) X.env = (do
      let ov ← eval o X.env
      standAt apos.atName
      let (f, first) ← holding [ov] (getMethod ov m pl)
      callWith pos f first (backTo pos (starEach (e :: es) X.env)) (backToKw pos (keywordEach [] X.env))) := by rfl) :
    DE γ X W (.Call (.Attribute o m apos) (e :: es) [] pos) (eMth cc m n g fo fa) := by
  obtain ⟨f, cl, hm, hc⟩ := h.ex
  refine ⟨fun pins s σ H Q I ⟨Φ, ρ, F, θ, S, ea, hh, p⟩ => ?_⟩
  refine PySem.W.methodCall_KW (pl := pl) (thn (ho.run pins s σ H (fun v H1 => ∃ F1 θ1 S1 d, Gr F F1 θ θ1 ∧ Rep ⟨X.K, γ⟩ F1 θ1 v d ∧ HA ⟨X.K, γ⟩ Φ F1 θ1 S1 H1 ∧ isIns cc m S1 d = true ∧ PostG ⟨X.K, γ⟩ Φ W σ F1 θ1 (Rep ⟨X.K, γ⟩) ((fa ρ S1).bind fun ds S2 => if ds.length = n then g (d :: ds) S2 else .bad) Q) I
    ⟨Φ, ρ, F, θ, S, ea, hh, PostG.seq p fun d S1 v F1 θ1 H1 _ g1 h1 r p1 => let ⟨a, b⟩ := post_if p1; ⟨F1, θ1, S1, d, g1, r, h1, a, b⟩⟩) fun u s1 ⟨v, H1, I1, rv, F1, θ1, S1, d, g1, rd, h1, hi, p1⟩ => ?_) ht
  obtain ⟨a, dx, gs, rfl, hH, hl⟩ := isIns_rep h1 rd hi
  obtain rfl : u = Value.ref a := rv
  refine getmeth_ok I1 hH cl hm hl ?_
  refine PySem.W.callWith_K (first := [.ref a]) (h₀ := X.base) I1.ok.mod.kin hm.kp (thn (ha.run pos pins s1 σ H1 (fun vs H2 => ∃ F2 θ2 S2 ds, Gr F1 F2 θ1 θ2 ∧ Reps ⟨X.K, γ⟩ F2 θ2 vs ds ∧ HA ⟨X.K, γ⟩ Φ F2 θ2 S2 H2 ∧ ds.length = n ∧ PostG ⟨X.K, γ⟩ Φ W σ F2 θ2 (Rep ⟨X.K, γ⟩) (g (d :: ds) S2) Q) I1
    ⟨Φ, ρ, F1, θ1, S1, ea.ext g1, h1, PostG.seq p1 fun ds S2 vs F2 θ2 H2 _ g2 h2 r p2 => let ⟨a, b⟩ := post_if p2; ⟨F2, θ2, S2, ds, g2, r, h2, a, b⟩⟩) fun us s2 ⟨vs, H2, I2, rvs, F2, θ2, S2, ds, g2, rds, h2, hn, p2⟩ => ⟨I2.kIn, ?_⟩) hst hpl
  exact hc X W rfl rfl rfl rfl rfl (c.hr.mono hj) c.gd c.tk pins s2 σ H2 (.ref a :: vs) (.ref a :: us) Q Φ F2 θ2 S2 (d :: ds) I2 (.cons rfl rvs) (.cons (rd.ext g2) rds) h2 (by rw [List.length_cons, hn]) p2
def eMth0 (c : Nat) (m : Str) (g : Fn) (a : Ex) : Ex := fun ρ S => (a ρ S).bind fun d S1 => if isIns c m S1 d = true then g [d] S1 else .bad
theorem de_meth0 {cc j : Nat} {m : Str} {g : Fn} {o : Expr} {fo : Ex} {pl : Sem Bool} (c : Ctx X W N sc k) (h : Mth γ X.prog X.w X.K X.mg X.base cc m j 0 g) (hj : j ≤ k := by decide) (ho : DE γ X W o fo)
    (ht : eval (.Call (.Attribute o m apos) [] [] pos) X.env = (do
      let ov ← eval o X.env
      standAt apos.atName
      let (f, first) ← holding [ov] (getMethod ov m pl)
      callWith pos f first (backTo pos (starEach [] X.env)) (backToKw pos (keywordEach [] X.env))) := by rfl) :
    DE γ X W (.Call (.Attribute o m apos) [] [] pos) (eMth0 cc m g fo) := by
  obtain ⟨f, cl, hm, hc⟩ := h.ex
  refine ⟨fun pins s σ H Q I ⟨Φ, ρ, F, θ, S, ea, hh, p⟩ => ?_⟩
  refine PySem.W.methodCall_KW (pl := pl) (thn (ho.run pins s σ H (fun v H1 => ∃ F1 θ1 S1 d, Gr F F1 θ θ1 ∧ Rep ⟨X.K, γ⟩ F1 θ1 v d ∧ HA ⟨X.K, γ⟩ Φ F1 θ1 S1 H1 ∧ isIns cc m S1 d = true ∧ PostG ⟨X.K, γ⟩ Φ W σ F1 θ1 (Rep ⟨X.K, γ⟩) (g [d] S1) Q) I
    ⟨Φ, ρ, F, θ, S, ea, hh, PostG.seq p fun d S1 v F1 θ1 H1 _ g1 h1 r p1 => let ⟨a, b⟩ := post_if p1; ⟨F1, θ1, S1, d, g1, r, h1, a, b⟩⟩) fun u s1 ⟨v, H1, I1, rv, F1, θ1, S1, d, g1, rd, h1, hi, p1⟩ => ?_) ht
  obtain ⟨a, dx, gs, rfl, hH, hl⟩ := isIns_rep h1 rd hi
  obtain rfl : u = Value.ref a := rv
  refine getmeth_ok I1 hH cl hm hl ?_
  exact PySem.W.callWith_K0 (first := [.ref a]) I1.kIn hm.kp (hc X W rfl rfl rfl rfl rfl (c.hr.mono hj) c.gd c.tk pins s1 σ H1 [.ref a] [.ref a] Q Φ F1 θ1 S1 [d] I1 (.cons rfl .nil) (.cons rd .nil) h1 rfl p1)

/-! keywords -/
abbrev DKs (γ : Nat → Addr) (X : Cx) (W : WX) (kws : List Keyword) (f : Xs) : Prop := PK X kws (dG ⟨X.K, γ⟩ W (Reps ⟨X.K, γ⟩) f)
theorem PK.weak {kws : List Keyword} {t u : TA} (h : PK X kws t) (kk : ∀ σ H Q, u σ H Q → t σ H Q) : PK X kws u := ⟨fun pos pins s σ H Q I q => h.run pos pins s σ H Q I (kk σ H Q q)⟩
theorem dk_nil : DKs γ X W [] aNil := PK.weak pk_nil fun σ H Q ⟨Φ, ρ, F, θ, S, ea, hh, p⟩ => PostG.ok p hh .nil
theorem dk_cons {nm : Option Str} {e : Expr} {kpos : Pos} {kws : List Keyword} {fa : Ex} {fr : Xs} (ha : DE γ X W e fa) (hr : DKs γ X W kws fr) : DKs γ X W (⟨nm, e, kpos⟩ :: kws) (aCons fa fr) :=
  PK.weak (pk_cons ha hr) fun σ H Q ⟨Φ, ρ, F, θ, S, ea, hh, p⟩ => ⟨Φ, ρ, F, θ, S, ea, hh, PostG.seq p fun d S1 v F1 θ1 H1 _ g1 h1 r p1 => ⟨Φ, ρ, F1, θ1, S1, ea.ext g1, h1, PostG.seq p1 fun ds S2 vs F2 θ2 H2 _ g2 h2 r2 p2 => p2.ok h2 (.cons (r.ext g2) r2)⟩⟩
def eMthK (c : Nat) (m : Str) (nk : Nat) (g : List Dv → List Dv → Sto → Re Dv) (a : Ex) (as : Xs) : Ex := fun ρ S => (a ρ S).bind fun d S1 => if isIns c m S1 d = true then (as ρ S1).bind fun ds S2 => if ds.length = nk then g [d] ds S2 else .bad else .bad
theorem de_methK0 {cc j : Nat} {m : Str} {ks : List Str} {g : List Dv → List Dv → Sto → Re Dv} {o : Expr} {kws : List Keyword} {fo : Ex} {fa : Xs} {pl : Sem Bool} (c : Ctx X W N sc k) (h : MthK γ X.prog X.w X.K X.mg X.base cc m j 0 ks g) (hj : j ≤ k := by decide) (ho : DE γ X W o fo) (ha : DKs γ X W kws fa)
    (hall : (backToKw pos (keywordEach kws X.env)).all (·.1.isSome) = true := by rfl) (hks : (backToKw pos (keywordEach kws X.env)).filterMap (·.1) = ks := by rfl)
    (hpl : ((backTo pos (starEach [] X.env)).any (·.1) || (backToKw pos (keywordEach kws X.env)).any (·.1.isNone)) = false := by rfl)
    (ht : eval (.Call (.Attribute o m apos) [] kws pos) X.env = (do
      let ov ← eval o X.env
      standAt apos.atName
      let (f, first) ← holding [ov] (getMethod ov m pl)
      callWith pos f first (backTo pos (starEach [] X.env)) (backToKw pos (keywordEach kws X.env))) := by rfl) :
    DE γ X W (.Call (.Attribute o m apos) [] kws pos) (eMthK cc m ks.length g fo fa) := by
  obtain ⟨f, cl, hm, hc⟩ := h.ex
  refine ⟨fun pins s σ H Q I ⟨Φ, ρ, F, θ, S, ea, hh, p⟩ => ?_⟩
  refine PySem.W.methodCall_KW (pl := pl) (thn (ho.run pins s σ H (fun v H1 => ∃ F1 θ1 S1 d, Gr F F1 θ θ1 ∧ Rep ⟨X.K, γ⟩ F1 θ1 v d ∧ HA ⟨X.K, γ⟩ Φ F1 θ1 S1 H1 ∧ isIns cc m S1 d = true ∧ PostG ⟨X.K, γ⟩ Φ W σ F1 θ1 (Rep ⟨X.K, γ⟩) ((fa ρ S1).bind fun ds S2 => if ds.length = ks.length then g [d] ds S2 else .bad) Q) I
    ⟨Φ, ρ, F, θ, S, ea, hh, PostG.seq p fun d S1 v F1 θ1 H1 _ g1 h1 r p1 => let ⟨a, b⟩ := post_if p1; ⟨F1, θ1, S1, d, g1, r, h1, a, b⟩⟩) fun u s1 ⟨v, H1, I1, rv, F1, θ1, S1, d, g1, rd, h1, hi, p1⟩ => ?_) ht
  obtain ⟨a, dx, gs, rfl, hH, hl⟩ := isIns_rep h1 rd hi
  obtain rfl : u = Value.ref a := rv
  refine getmeth_ok I1 hH cl hm hl ?_
  refine PySem.W.callWith_KW0 (first := [.ref a]) (h₀ := X.base) I1.ok.mod.kin hm.kp hall ?_ hpl
  refine thn (ha.run pos pins s1 σ H1 (fun vs H2 => ∃ F2 θ2 S2 ds, Gr F1 F2 θ1 θ2 ∧ Reps ⟨X.K, γ⟩ F2 θ2 vs ds ∧ HA ⟨X.K, γ⟩ Φ F2 θ2 S2 H2 ∧ ds.length = ks.length ∧ PostG ⟨X.K, γ⟩ Φ W σ F2 θ2 (Rep ⟨X.K, γ⟩) (g [d] ds S2) Q) I1
    ⟨Φ, ρ, F1, θ1, S1, ea.ext g1, h1, PostG.seq p1 fun ds S2 vs F2 θ2 H2 _ g2 h2 r p2 => let ⟨a, b⟩ := post_if p2; ⟨F2, θ2, S2, ds, g2, r, h2, a, b⟩⟩) fun ws s2 ⟨vs, H2, I2, rvs, F2, θ2, S2, ds, g2, rds, h2, hn, p2⟩ => ⟨I2.kIn, ?_⟩
  rw [hks]
  exact hc X W rfl rfl rfl rfl rfl (c.hr.mono hj) c.gd c.tk pins s2 σ H2 [.ref a] vs [.ref a] ws Q Φ F2 θ2 S2 [d] ds I2 (.cons rfl .nil) rvs (.cons (rd.ext g2) .nil) rds h2 rfl hn p2

/-! properties -/
theorem guards_in1 {A : Around} (h : A.guards = some []) : A.in1.guards = some [] := h
/-- o.f, a property -/
def prpD (c : Nat) (g : Fn) (d : Dv) (S : Sto) : Re Dv := match insOf S d with
  | some (c', _) => if c' = c then noexc (g [d] S) else .bad
  | none => .bad
theorem noexc_post {α β : Type} {M : Ev} {Φ F : Hp} {θ : List Addr} {σ σ' : L2.St} {W' : WX} {R : Hp → List Addr → β → α → Prop} {r : Re α} {Q : β → Hp → Prop} (p : PostG M Φ W σ F θ R (noexc r) Q) : PostG M Φ W' σ' F θ R r Q := by
  cases r with
  | ok a S => exact p
  | exc c d S => exact p.elim
  | bad => exact p
theorem getprop_run {cc j : Nat} {f : Str} {g : Fn} {a dx : Addr} {gs : List (Str × V)} {pins : List (Addr × Obj)} {σ : L2.St} {H : Hp} {s : Shared} {Q : VK} {b : Bool} {E' : Value → Shared → Prop} {Φ F : Hp} {θ : List Addr} {S : Sto} {d : Dv}
    (h : Prp γ X.prog X.w X.K X.mg X.base cc f j g) (hr : Room (j + 1) X.A) (hg : X.A.guards = some []) (I : Inv X pins σ H s) (ea : H a = some (.ins (γ cc) dx gs)) (rd : Rep ⟨X.K, γ⟩ F θ (.ref a) d) (hh : HA ⟨X.K, γ⟩ Φ F θ S H) (p : PostG ⟨X.K, γ⟩ Φ Wf σ F θ (Rep ⟨X.K, γ⟩) (g [d] S) Q) :
    wpAny (model X.prog X.w) X.A (getAttr (.ref a) f b) (EP X pins σ Q) E' s := by
  obtain ⟨pa, ga, fd, ps, c, hp, hb, FF⟩ := h.ex
  obtain ⟨mA, O, _, _, _, _⟩ := ins_get I.hok ea
  obtain ⟨od, J, _⟩ := O.look
  obtain ⟨rest, hrec⟩ := hp.rec_
  have I1 := I.tok (s.toks + 1)
  have hsp : spD ⟨X.K, γ⟩ 1 g [.ref a] H Q (fun _ _ _ => False) := ⟨rfl, [d], Φ, F, θ, S, .cons rd .nil, hh, by
    revert p
    cases g [d] S with
    | ok d S' => exact fun p => p
    | exc c d S' => exact fun p => p
    | bad => exact fun p => p⟩
  have hl : [Value.ref a].length = ps.length := by
    rw [← FF.len _ _ _ _ hsp]; rfl
  have hc : (PySem.W.clsIn X.K (γ cc)).isSome = true := by
    obtain ⟨cd, hc, _⟩ := PySem.W.any_some c.hd
    rw [hc]
    rfl
  refine PySem.W.get_bind I.kIn J (PySem.W.plainGet_of (c.get f)).1 (PySem.W.findObj_data hc hp.at_ hp.get hp.tak) (PySem.W.plainGet_of (c.get f)).2 (wpAny_call (PySem.W.prop_get (s := { s with toks := s.toks + 1 }) I.kIn hrec ?_))
  have hb' := hb { s with toks := s.toks + 1 } [.ref a] I1.kIn (by rw [List.append_nil]; exact hl)
  rw [List.append_nil] at hb'
  refine codeAny_mono (FF.run X.A.in1 X.stack { s with toks := s.toks + 1 } H ⟨[.ref a], []⟩ [.ref a] [.ref a] Q _ hr.in1 (guards_in1 hg) I1.env0.in1 hb' (.cons rfl .nil) hsp) fun r s' hq => ?_
  cases r with
  | error er =>
    obtain ⟨_, _, _, _, _, _, _, _, _, _, _, _, _, _, _, _, hf⟩ := (XE.of_call (W := Wf) I1 (fun cls d H' h => h) hq)
    exact hf.elim
  | ok fl =>
    cases fl with
    | ret u =>
      obtain ⟨v, H', I3, rv, q3⟩ := I1.after hq
      show wpAny _ _ (handedOut u) _ _ _
      rw [PySem.W.handedOut_of (handed_of rv)]
      exact wpAny_pure ⟨v, H', I3, rv, q3⟩
    | next => exact False.elim hq
    | brk => exact False.elim hq
    | cont => exact False.elim hq
theorem de_prop {cc j : Nat} {f : Str} {g : Fn} {e : Expr} {fa : Ex} (c : Ctx X W N sc k) (h : Prp γ X.prog X.w X.K X.mg X.base cc f j g) (hj : j + 1 ≤ k := by decide) (he : DE γ X W e fa) (hab : attributeBase e f X.env (eval e X.env) = eval e X.env := by rfl) :
    DE γ X W (.Attribute e f pos) (e1 (prpD cc g) fa) := by
  refine ⟨fun pins s σ H Q I ⟨Φ, ρ, F, θ, S, ea, hh, p⟩ => ?_⟩
  refine attr_of hab (thn (he.run pins s σ H (fun v H1 => ∃ F1 θ1 S1 d, Rep ⟨X.K, γ⟩ F1 θ1 v d ∧ HA ⟨X.K, γ⟩ Φ F1 θ1 S1 H1 ∧ PostG ⟨X.K, γ⟩ Φ W σ F1 θ1 (Rep ⟨X.K, γ⟩) (prpD cc g d S1) Q) I
    ⟨Φ, ρ, F, θ, S, ea, hh, PostG.seq p fun d S1 v F1 θ1 H1 _ g1 h1 r p1 => ⟨F1, θ1, S1, d, r, h1, p1⟩⟩) fun u s1 ⟨v, H1, I1, rv, F1, θ1, S1, d, rd, h1, p1⟩ => ?_)
  unfold prpD at p1
  cases hi : insOf S1 d with
  | none => rw [hi] at p1; exact p1.elim
  | some q =>
    obtain ⟨c', fs⟩ := q
    rw [hi] at p1
    obtain ⟨rfl, p2⟩ := post_if p1
    obtain ⟨a, dx, gs, rfl, hH, rf⟩ := insOf_rep h1 rd hi
    obtain rfl : u = Value.ref a := rv
    exact getprop_run h (c.hr.mono hj) c.gd I1 hH rd h1 (noexc_post p2)
end
end DL

/-! The D layer, 12: exceptions. -/
namespace DL
open PySem PySem.Spec PyProof.Rows L2

/-- __init__(self, value): self.value = value, of an exception in the making -/
def spErr (K : PySem.W.Frag) : Sp := fun vs H Q _ => ∃ a C y, vs = [.ref a, y] ∧ OexC K C ∧ PySem.W.findIn K (.ref C) "value" = some none ∧ H a = some (exo a C none) ∧
  ∀ dx, H dx = none → dx ≠ a → Q .non (upd (upd H dx (exd dx [("value", y)])) a (exo a C (some dx)))
section
variable {P : Program} {w : World} {K : PySem.W.Frag} {mg : Str → Option Value} {base : Heap}
theorem err_init {x qual : Str} {st : Stmt} {f : Addr} {fd : FuncData} {p1 p2 p3 p4 : Pos} (F : Fun K x qual st f fd) (S : FnScope ["self", "value"] ["self", "value"] (defScope st))
    (hb : defBody st = [.Assign [.Attribute (.Name "self" p1) "value" p2] (.Name "value" p3) p4]) (v1 : Vis (defScope st) "self") (v2 : Vis (defScope st) "value") :
    FnOk P w K mg base CX0 1 f fd ["self", "value"] (spErr K) := by
  refine F.ok (k := 0) S (fun vs H Q E ⟨a, C, y, h, _⟩ => by rw [h]; rfl) fun cdv A outer s H vs Q E hr hsp => ?_
  obtain ⟨a, C, y, rfl, T, hno, ha, q⟩ := hsp
  rw [hb]
  refine ⟨_, pss_one (ps_ost (pe_var (i := 0) rfl v1) (pe_var (i := 1) rfl v2)), ?_⟩
  exact ⟨y, rfl, .ref a, rfl, a, C, rfl, T, hno, .inl ⟨ha, fun dx h1 h2 => q dx h1 h2⟩⟩
end
/-- the name x of the module is the exception class c -/
structure Rai (γ : Nat → Addr) (P : Program) (w : World) (K : PySem.W.Frag) (mg : Str → Option Value) (base : Heap) (x : Str) (c j : Nat) : Prop where
  hm : mg x = some (.ref (γ c))
  T : OexC K (γ c)
  hno : PySem.W.findIn K (.ref (γ c)) "value" = some none
  ex : ∃ (f : Addr) (fd : FuncData) (ps : List Str), PySem.W.findIn K (.ref (γ c)) "__init__" = some (some (.ref f)) ∧ PySem.W.typeIn K (.ref f) = some (.type "function") ∧ FnOk P w K mg base CX0 j f fd ps (spErr K) ∧ Binds K fd ps []
section
variable {γ : Nat → Addr} {X : Cx} {W : WX} {N : List Str} {sc : Scope} {k : Nat} {pos pos' p : Pos}
def sRaise (c : Nat) (f : Ex) : Sm := fun ρ S => (f ρ S).toS ρ fun d S' => .exc c d ρ S'
theorem ds_raise {cc j : Nat} {x : Str} {e : Expr} {f : Ex} (c : Ctx X W N sc k) (h : Rai γ X.prog X.w X.K X.mg X.base x cc j) (hj : j + 1 ≤ k := by decide) (hg : sc.names.lookup x = some .globalImplicit := by rfl) (he : DE γ X W e f)
    (hdb : (x == ("__debug__" : Str)) = false := by decide) (hs : starEach (e :: []) X.env = (false, eval e X.env) :: starEach [] X.env := by rfl) (hpl : (backTo pos' (starEach [] X.env)).any (·.1) = false := by rfl) (hs1 : starEach [e] X.env = (false, eval e X.env) :: starEach [] X.env := by rfl) :
    DS γ X W (.Raise (some (.Call (.Name x p) [e] [] pos')) none pos) (sRaise cc f) := by
  obtain ⟨fI, fd, ps, h1, h2, h3, h4⟩ := h.ex
  refine PS.weak (ps_raise c.calm c.tk (pmk_oex (CX := CX0) h.T h1 h2 h3 (c.hr.mono hj) h4 .nil (fun _ _ _ _ _ _ _ hh => hh.elim) (show X.env.scope.names.lookup x = some .globalImplicit by rw [c.hsc]; exact hg) h.hm (pa_cons he pa_nil hs1) hdb hs hpl)) ?_
  rintro D σ H ⟨Φ, ρ, F, θ, S, ea, hh, p⟩
  refine ⟨Φ, ρ, F, θ, S, ea, hh, PostS.seq ea p fun d S' v F' θ' H' _ g1 hh' r p' => ?_⟩
  refine ⟨by simp, fun a ha => ⟨a, γ cc, v, rfl, h.T, h.hno, upd_same, fun dx hd hne => ⟨rfl, dx, [("value", v)], upd_same, ?_, ?_, ?_⟩⟩⟩
  · rw [upd_ne hne, upd_same]
  · rw [upd_ne hne] at hd; exact hd
  · have hdx : H' dx = none := by rw [upd_ne hne] at hd; exact hd
    obtain ⟨g2, h2⟩ := hh'.alloc (.xd [("value", v)]) hdx
    refine p' dx v σ _ θ' _ g2 ((ea.ext g1).ext g2) (h2.same fun b o q => ?_) upd_same (r.ext g2)
    by_cases hb : b = dx
    · subst hb; rw [upd_same] at q ⊢; exact q
    · rw [upd_ne hb] at q ⊢
      have hba : b ≠ a := ne_of_none q ha
      rw [del_ne hba, upd_ne hba, upd_ne hb, upd_ne hba]
      exact q

/-! ### try / except -/
/-- the context of an except suite -/
structure CtxS (X : Cx) (N : List Str) (sc : Scope) : Prop where
  hN : X.N = N
  hsc : X.env.scope = sc
  nd : N.Nodup
  fn : ∀ x, X.fn x = true
def catchD (i : Nat) (ct : Nat → Option Bool) (fs : Nat → Dv → Sm) : SRe → SRe
  | .exc c d ρ S => match ct c with
    | some true => if i < ρ.length then (match fs c d ρ S with
      | .nx ρ' S' => .nx (ρ'.set i none) S'
      | .brk ρ' S' => .brk (ρ'.set i none) S'
      | .ct ρ' S' => .ct (ρ'.set i none) S'
      | .ret d S' => .ret d S'
      | _ => .bad) else .bad
    | some false => .exc c d ρ S
    | none => .bad
  | r => r
def sTry (i : Nat) (ct : Nat → Option Bool) (b : Sm) (fs : Nat → Dv → Sm) : Sm := fun ρ S => catchD i ct fs (b ρ S)
theorem EA.unset {M : Ev} {F : Hp} {θ : List Addr} {σ : L2.St} {ρ : En} (h : EA M F θ σ ρ) (i : Nat) : EA M F θ (σ.set i none) (ρ.set i none) := by
  refine ⟨by rw [List.length_set, List.length_set]; exact h.len, fun j d' q => ?_⟩
  by_cases e : i = j
  · subst e
    have hlt : i < ρ.length := by
      have z := (List.getElem?_eq_some_iff.mp q).1
      rw [List.length_set] at z
      exact z
    rw [List.getElem?_set_self hlt] at q
    cases q
  · rw [List.getElem?_set_ne e] at q
    obtain ⟨u, a, b⟩ := h.at_ j d' q
    exact ⟨u, by rw [List.getElem?_set_ne e]; exact a, b⟩
theorem ds_try (i : Nat) {x n : Str} {cc : Nat} {body suite : List Stmt} {b₀ : Stmt} {np : Pos} {fb : Sm} {fs : Addr → Addr → Nat → Dv → Sm} {ct : Nat → Option Bool} {fs' : Nat → Dv → Sm} (c : CtxD X W N sc k) (hm : X.mg x = some (.ref (γ cc)))
    (hct : ∀ c' b, ct c' = some b → PySem.W.exmOne X.K (.ref (γ c')) (.ref (γ cc)) = some b)
    (hi : N[i]? = some n := by rfl) (hln : sc.names.lookup n = some .local := by rfl) (hg : sc.names.lookup x = some .globalImplicit := by rfl)
    (hb : ∀ (W' : WX) (pn : List (Addr × Obj)) (xe : Value → Shared → Prop), CtxD (X.tr pn xe) W' N sc k → DSs γ (X.tr pn xe) W' body fb)
    (hsu : ∀ (a dd : Addr) (oe : Obj) (c' : Nat) (pn : List (Addr × Obj)), Zc (.ref (γ c')) (some dd) oe → (∃ vs, oe.data = .fields vs) → CtxS (X.suite a ((a, oe) :: pn)) N sc → ∀ d, ct c' = some true → DSs γ (X.suite a ((a, oe) :: pn)) Wf (b₀ :: suite) (fs a dd c' d))
    (hfs : ∀ a dd c' d ρ S, ct c' = some true → i < ρ.length → fs a dd c' d (ρ.set i (some (.exn a dd c' d))) S = fs' c' d (ρ.set i (some (.exn a dd c' d))) S ∧ catchD i ct fs' (.exc c' d (ρ.set i (some (.exn a dd c' d))) S) = catchD i ct fs' (.exc c' d ρ S))
    (hdb : (x == ("__debug__" : Str)) = false := by decide) :
    DS γ X W (.Try body [.ExceptHandler (some (.Name x np)) (some n) (b₀ :: suite) pos'] [] [] pos) (sTry i ct fb fs') := by
  refine PS.weak (ps_try_as (i := i) (c := .ref (γ cc)) (tb := fun W' => dS ⟨X.K, γ⟩ W' fb) (ts := fun a cls d D σ H => ∃ c' dd dv, cls = .ref (γ c') ∧ d = some dd ∧ ct c' = some true ∧ dS ⟨X.K, γ⟩ Wf (fs a dd c' dv) D σ H) (Wout := W) c.st c.fr (by rw [c.hN]; exact c.nd) (by rw [c.hN]; exact hi)
    (show X.env.scope.names.lookup n = some .local by rw [c.hsc]; exact hln) ⟨show X.env.scope.names.lookup x = some .globalImplicit by rw [c.hsc]; exact hg, hdb, .inl hm⟩ c.tk
    (fun W' pn xe tk pw => hb W' pn xe ⟨⟨c.hN, c.hsc, c.nd, c.calm, tk, pw, c.gd, c.hr⟩, c.fn, c.st, c.fr⟩)
    (fun a oe cls d pn hz hv => ⟨fun pins s σ H D I ⟨c', dd, dv, h1, h2, h4, h3⟩ => by
      subst h1 h2
      exact (hsu a dd oe c' pn hz hv ⟨c.hN, c.hsc, c.nd, c.fn⟩ dv h4).run pins s σ H D I h3⟩)) ?_
  rintro D σ H ⟨Φ, ρ, F, θ, S, ea, hh, p⟩
  refine ⟨Φ, ρ, F, θ, S, ea, hh, ?_⟩
  unfold sTry at p
  revert p
  cases fb ρ S with
  | nx ρ' S' => exact fun p => p
  | ret d S' => exact fun p => p
  | brk ρ' S' => exact fun p => p
  | ct ρ' S' => exact fun p => p
  | bad => exact fun p => p
  | exc c' d ρ' S' =>
    intro p dd v σ' F' θ' H' g1 ea' hh' hx rv
    cases hc : ct c' with
    | none => simp only [catchD, hc] at p; exact p.elim
    | some b =>
      refine ⟨b, hct c' b hc, fun hb' a ha => ?_, fun hb' => ?_⟩
      · subst hb'
        have hlen : i < ρ'.length := by
          simp only [catchD, hc] at p
          by_cases hl : i < ρ'.length
          · exact hl
          · rw [if_neg hl] at p; exact p.elim
        have hlen2 : i < (ρ'.set i (some (.exn a dd c' d))).length := by rw [List.length_set]; exact hlen
        obtain ⟨q1, q2⟩ := hfs a dd c' d ρ' S' hc hlen
        refine ⟨c', dd, d, rfl, rfl, hc, Φ, ρ'.set i (some (.exn a dd c' d)), F', θ', S', ea'.set i (.exn hx rv), hh', ?_⟩
        rw [q1]
        rw [← q2] at p
        simp only [catchD, hc] at p
        rw [if_pos hlen2] at p
        revert p
        cases fs' c' d (ρ'.set i (some (.exn a dd c' d))) S' with
        | nx ρ2 S2 => exact fun p σ2 F2 θ2 H2 g2 e2 h2 => p _ F2 θ2 H2 (g1.trans g2) (e2.unset i) h2
        | brk ρ2 S2 => exact fun p σ2 F2 θ2 H2 g2 e2 h2 => p _ F2 θ2 H2 (g1.trans g2) (e2.unset i) h2
        | ct ρ2 S2 => exact fun p σ2 F2 θ2 H2 g2 e2 h2 => p _ F2 θ2 H2 (g1.trans g2) (e2.unset i) h2
        | ret d2 S2 => exact fun p v2 F2 θ2 H2 g2 h2 r2 => p v2 F2 θ2 H2 (g1.trans g2) h2 r2
        | exc _ _ _ _ => exact fun p => p.elim
        | bad => exact fun p => p.elim
      · subst hb'
        simp only [catchD, hc] at p
        exact p dd v σ' F' θ' H' g1 ea' hh' hx rv

/-- a suite of one assignment of what does not hang on the names -/
theorem suite_set {i j : Nat} {ct : Nat → Option Bool} {f : Nat → Dv → Ex} (hij : i ≠ j) (hf : ∀ c d ρ ρ' S, f c d ρ S = f c d ρ' S) {x : Option Dv} (c : Nat) (d : Dv) (ρ : En) (S : Sto) (h : ct c = some true) :
    catchD i ct (fun c d => sSet j (f c d)) (.exc c d (ρ.set i x) S) = catchD i ct (fun c d => sSet j (f c d)) (.exc c d ρ S) := by
  simp only [catchD, h, List.length_set, sSet]
  rw [hf c d (ρ.set i x) ρ S]
  by_cases hl : i < ρ.length
  · rw [if_pos hl, if_pos hl]
    cases f c d ρ S with
    | ok y S2 =>
      show SRe.nx (((ρ.set i x).set j (some y)).set i none) S2 = SRe.nx ((ρ.set j (some y)).set i none) S2
      rw [List.set_comm _ _ hij, List.set_set]
    | exc _ _ _ => rfl
    | bad => rfl
  · rw [if_neg hl, if_neg hl]
/-- a suite of two assignments, the second a sum on the first -/
theorem suite_add {i j : Nat} {ct : Nat → Option Bool} {f g : Nat → Dv → Ex} (hij : i ≠ j) (hf : ∀ c d ρ ρ' S, f c d ρ S = f c d ρ' S) (hg : ∀ c d ρ ρ' S, g c d ρ S = g c d ρ' S) {x : Option Dv} (c : Nat) (d : Dv) (ρ : En) (S : Sto) (h : ct c = some true) :
    catchD i ct (fun c d => sSeq (sSet j (f c d)) (sSet j (e2 oAdd (eV j) (g c d)))) (.exc c d (ρ.set i x) S) = catchD i ct (fun c d => sSeq (sSet j (f c d)) (sSet j (e2 oAdd (eV j) (g c d)))) (.exc c d ρ S) := by
  simp only [catchD, h, List.length_set]
  by_cases hl : i < ρ.length
  · rw [if_pos hl, if_pos hl]
    simp only [sSeq, sSet]
    rw [hf c d (ρ.set i x) ρ S]
    cases f c d ρ S with
    | ok y S2 =>
      simp only [Re.toS_ok, SRe.seq_nx, sSet, e2, eV]
      by_cases hj : j < ρ.length
      · rw [List.getElem?_set_self (by rw [List.length_set]; exact hj), List.getElem?_set_self hj]
        simp only [Re.bind_ok]
        rw [hg c d ((ρ.set i x).set j (some y)) (ρ.set j (some y)) S2]
        cases g c d (ρ.set j (some y)) S2 with
        | ok z S3 =>
          simp only [Re.bind_ok]
          cases oAdd y z S3 with
          | ok w S4 =>
            simp only [List.set_set, Re.toS_ok]
            exact congrArg (fun l => SRe.nx l S4) (by rw [List.set_comm _ _ hij, List.set_set])
          | exc _ _ _ => rfl
          | bad => rfl
        | exc _ _ _ => rfl
        | bad => rfl
      · rw [List.getElem?_eq_none (by rw [List.length_set, List.length_set]; omega), List.getElem?_eq_none (by rw [List.length_set]; omega)]
        rfl
    | exc _ _ _ => rfl
    | bad => rfl
  · rw [if_neg hl, if_neg hl]
theorem suite_two {j : Nat} {f1 f2 : Ex} {g1 g2 : Sm} {ρ : En} {S : Sto} (h1 : f1 ρ S = f2 ρ S) (h2 : ∀ y S', g1 (ρ.set j (some y)) S' = g2 (ρ.set j (some y)) S') : sSeq (sSet j f1) g1 ρ S = sSeq (sSet j f2) g2 ρ S := by
  unfold sSeq sSet
  rw [h1]
  cases f2 ρ S with
  | ok y S' => exact h2 y S'
  | exc _ _ _ => rfl
  | bad => rfl
theorem eV_set2 {ρ : En} {i j : Nat} {d y : Dv} (h : i < ρ.length) (hij : j ≠ i) (S : Sto) : eV i ((ρ.set i (some d)).set j (some y)) S = .ok d S := by
  unfold eV
  rw [List.getElem?_set_ne hij, List.getElem?_set_self h]
theorem eV_set {ρ : En} {i : Nat} {d : Dv} (h : i < ρ.length) (S : Sto) : eV i (ρ.set i (some d)) S = .ok d S := by
  unfold eV
  rw [List.getElem?_set_self h]
/-! ### within a suite -/
theorem de_varS (i : Nat) {x : Str} (c : CtxS X N sc) (hN : N[i]? = some x := by rfl) (hv : Vis sc x := by first | exact Or.inl rfl | exact Or.inr (Or.inl rfl) | exact Or.inr (Or.inr rfl))
    (hd : (x == ("__debug__" : Str)) = false := by decide) (hcd : (x == ("__classdict__" : Str)) = false := by decide) : DE γ X W (.Name x pos) (eV i) := by
  refine PE.weak (pe_var (i := i) (by rw [c.hN]; exact hN) (by rw [c.hsc]; exact hv) hd hcd) fun σ H Q ⟨Φ, ρ, F, θ, S, ea, ha, p⟩ => ?_
  unfold eV at p
  split at p
  · rename_i d e
    obtain ⟨v, hv, r⟩ := ea.at_ i d e
    exact ⟨v, hv, PostG.ok p ha r⟩
  · exact p.elim
theorem ds_setS (i : Nat) {x : Str} {e : Expr} {f : Ex} {pos' : Pos} (c : CtxS X N sc) (h : DE γ X W e f) (hi : N[i]? = some x := by rfl) (hx : Loc sc x := by first | exact Or.inl rfl | exact Or.inr rfl)
    (hs : swapsWith e (some (.Name x pos')) pos.line X.env = pure false := by rfl) : DS γ X W (.Assign [.Name x pos'] e pos) (sSet i f) :=
  PS.weak (ps_set (i := i) (by rw [c.hN]; exact c.nd) (by rw [c.hN]; exact hi) (by rw [c.hsc]; exact hx) h hs (.inl (c.fn x))) fun D σ H ⟨Φ, ρ, F, θ, S, ea, hh, p⟩ => ⟨Φ, ρ, F, θ, S, ea, hh, PostS.seq ea p fun d S' v F' θ' H' _ e h' r p' => p' _ F' θ' H' .rfl ((ea.ext e).set i r) h'⟩
/-- e.value -/
def xvD (a : Addr) (dd : Addr) (c : Nat) (d : Dv) (S : Sto) : Re Dv := match d with
  | .exn a' dd' c' d' => if a' = a ∧ dd' = dd ∧ c' = c then .ok d' S else .bad
  | _ => .bad
theorem de_xv {a dd : Addr} {oe : Obj} {cc : Nat} {pn : List (Addr × Obj)} {e : Expr} {f : Ex} (T : XfC X.K (γ cc)) (hno : PySem.W.findIn X.K (.ref (γ cc)) "value" = some none) (hz : Zc (.ref (γ cc)) (some dd) oe) (hf : ∃ vs, oe.data = .fields vs)
    (he : DE γ (X.suite a ((a, oe) :: pn)) W e f) (hb : attributeBase e "value" X.env (eval e X.env) = eval e X.env := by rfl) : DE γ (X.suite a ((a, oe) :: pn)) W (.Attribute e "value" pos) (e1 (xvD a dd cc) f) :=
  PE.weak (pe_xf T hno hz hf he hb) fun σ H Q ⟨Φ, ρ, F, θ, S, ea, hh, p⟩ => ⟨Φ, ρ, F, θ, S, ea, hh, PostG.seq p fun d S' v F' θ' H' _ g h' r p' => by
    unfold xvD at p'
    cases r with
    | exn h1 h2 =>
      obtain ⟨⟨rfl, rfl, rfl⟩, p2⟩ := post_if p'
      exact ⟨rfl, rfl, _, _, _, rfl, h'.sub _ _ h1, rfl, p2.ok h' h2⟩
    | _ => exact p'.elim⟩
/-- what a class is asked by isinstance -/
structure IsX (K : PySem.W.Frag) (D : Addr) : Prop where
  hcl : (PySem.W.clsIn K D).isSome = true
  hg : PySem.W.findIn K (.ref D) "__getattribute__" = some (some (.builtin "BaseException.__getattribute__"))
  hk : PySem.W.findIn K (.ref D) "__getattr__" = some none
  hs : PySem.W.subIn K (.ref D) (.type "BaseException") = some true
  ha : PySem.W.findIn K (.ref D) "__class__" = some (some (.builtin "object.__class__"))
  hn : PySem.W.specialIn K (.builtin "object.__class__") "__get__" = some (some (.builtin "getset_descriptor.__get__"))
  ht : PySem.W.takesIn K (.builtin "object.__class__") = some true
  hm : PySem.W.mroIn K D (.type "object") = some true
def eO (b : Option Bool) : Ex := fun _ S => match b with
  | some b => .ok (.bl b) S
  | none => .bad
/-- isinstance(e, C), e the exception -/
def bXi (a dd : Addr) (c cc : Nat) (b : Option Bool) : Fn := fun ds S => match ds with
  | [.exn a' dd' c' _, .cls cc'] => if a' = a ∧ dd' = dd ∧ c' = c ∧ cc' = cc then (match b with
    | some b => .ok (.bl b) S
    | none => .bad) else .bad
  | _ => .bad
theorem bu_xi {a dd : Addr} {oe : Obj} {c' cc : Nat} {b : Option Bool} {pn : List (Addr × Obj)} (T : IsX X.K (γ c')) (hb : ∀ r, b = some r → PySem.W.kitOne X.K (.ref (γ c')) (.ref (γ cc)) = some r) (hz : Zc (.ref (γ c')) (some dd) oe) (hf : ∃ vs, oe.data = .fields vs) :
    BuD γ (X.suite a ((a, oe) :: pn)) W (.builtin "isinstance") (bXi a dd c' cc b) := by
  intro pins s σ H vs us Q Φ F θ S ds I rv rd hh p
  match ds, rd, p with
  | [], _, p => exact p.elim
  | [_], _, p =>
    unfold bXi at p
    split at p
    · rename_i q; cases q
    · exact p.elim
  | _ :: _ :: _ :: _, _, p =>
    unfold bXi at p
    split at p
    · rename_i q; cases q
    · exact p.elim
  | [d, e], rd, p =>
    obtain ⟨v, w, rfl, r1, r2⟩ := reps2 rd
    cases r1 with
    | exn h1 h2 =>
      cases r2 with
      | cls cq =>
        simp only [bXi] at p
        obtain ⟨⟨rfl, rfl, rfl, rfl⟩, p2⟩ := post_if p
        cases b with
        | none => exact p2.elim
        | some b =>
          obtain ⟨u1, u2, rfl, q1, q2⟩ := vals2 rv
          cases q1
          cases q2
          obtain ⟨hget, _⟩ := I.pin (_, oe) (List.mem_append.mpr (.inl List.mem_cons_self))
          obtain ⟨vs, hv⟩ := hf
          obtain ⟨mA, hns, hr⟩ := (show ObjOk X.prog X.w H s.heap _ (.xd [("value", _)]) from I.hok _ _ (hh.sub _ _ h1))
          obtain ⟨od, ho, hl⟩ := lookIn_ns hns
          have J : PySem.W.InstAt s.heap _ oe (γ _) (some od) := ⟨hget, hz.1, by unfold PySem.W.notCls; rw [hv] <;> rfl, by rw [hz.2]; exact ho⟩
          exact PySem.W.kia_one (PySem.W.kitx_exc T.hcl T.hg T.hk T.hs T.ha T.hn T.ht T.hm) I.kIn J (hb _ rfl) (fun z => nomatch z) fun tk => ⟨.bl b, H, I.tok tk, rfl, p2.ok hh (.bl b)⟩
      | _ => exact p.elim
    | _ => exact p.elim
theorem de_buS {id : String} {x : Str} {g : Fn} {e : Expr} {es : List Expr} {fa : Xs} {p : Pos} (hc : BuD γ X W (.builtin id) g) (hg : sc.names.lookup x = some .globalImplicit) (c : CtxS X N sc) (hm : X.mg x = none) (hv : bootBuiltins x = some (.builtin id)) (ha : DAs γ X W (e :: es) fa)
    (hn : x ≠ "__name__" := by decide) (hdb : (x == ("__debug__" : Str)) = false := by decide) (he : starEach (e :: es) X.env = (false, eval e X.env) :: starEach es X.env := by rfl) (hpl : (backTo pos (starEach es X.env)).any (·.1) = false := by rfl) :
    DE γ X W (.Call (.Name x p) (e :: es) [] pos) (eN g fa) := by
  refine ⟨fun pins s σ H Q I ⟨Φ, ρ, F, θ, S, ea, hh, p⟩ => ?_⟩
  refine wpAny_Call_Name_kw (ld_blt I (show X.env.scope.names.lookup x = some .globalImplicit by rw [c.hsc]; exact hg) hm hv ?_ hn hdb)
  refine PyProof.Rows.callWith_builtin1 (thn (ha.run pos pins s σ H (fun vs H' => ∃ F θ S ds, Reps ⟨X.K, γ⟩ F θ vs ds ∧ HA ⟨X.K, γ⟩ Φ F θ S H' ∧ PostG ⟨X.K, γ⟩ Φ W σ F θ (Rep ⟨X.K, γ⟩) (g ds S) Q) I ?_) fun us s1 ⟨vs, H1, I1, r1, F1, θ1, S1, ds, rd, h1, p1⟩ => hc pins s1 σ H1 vs us Q Φ F1 θ1 S1 ds I1 r1 rd h1 p1) he hpl
  exact ⟨Φ, ρ, F, θ, S, ea, hh, PostG.seq p fun ds S' vs F' θ' H' _ e h' r p' => ⟨F', θ', S', ds, r, h', p'⟩⟩
/-- the name of a class -/
theorem de_cls (cc : Nat) {x : Str} (hsc : X.env.scope = sc) (hm : X.mg x = some (.ref (γ cc))) (hg : sc.names.lookup x = some .globalImplicit := by rfl) (hd : (x == ("__debug__" : Str)) = false := by decide) : DE γ X W (.Name x pos) (eC (.cls cc)) :=
  de_glob (v := .ref (γ cc)) (show X.env.scope.names.lookup x = some .globalImplicit by rw [hsc]; exact hg) hm rfl (fun _ _ => .cls cc) hd

theorem kit_self {K : PySem.W.Frag} {C : Addr} : PySem.W.kitOne K (.ref C) (.ref C) = some true := by unfold PySem.W.kitOne; simp
/-! ### isinstance -/
def isS (c : Nat) : String ⊕ Nat → Option Bool
  | .inr c' => if c' = c then some true else none
  | .inl _ => none
structure IsC (K : PySem.W.Frag) (D : Addr) : Prop where
  cl : Cls K D
  ha : PySem.W.findIn K (.ref D) "__class__" = some (some (.builtin "object.__class__"))
  hn : PySem.W.specialIn K (.builtin "object.__class__") "__get__" = some (some (.builtin "getset_descriptor.__get__"))
  ht : PySem.W.takesIn K (.builtin "object.__class__") = some true
  hm : PySem.W.mroIn K D (.type "object") = some true
def tyD (S : Sto) : Dv → Option (String ⊕ Nat)
  | .non => some (.inl "NoneType")
  | .bl _ => some (.inl "bool")
  | .int _ => some (.inl "int")
  | .str _ => some (.inl "str")
  | .lst _ => some (.inl "list")
  | .ins c _ => some (.inr c)
  | .cell k => match S[k]? with
    | some (.lst _) => some (.inl "list")
    | some (.ins c _) => some (.inr c)
    | _ => none
  | _ => none
def tyV (γ : Nat → Addr) : String ⊕ Nat → Value
  | .inl T => .type T
  | .inr c => .ref (γ c)
theorem tyD_rep {M : Ev} {Φ F : Hp} {θ : List Addr} {S : Sto} {H : Hp} {v : V} {d : Dv} {t : String ⊕ Nat} (hh : HA M Φ F θ S H) (r : Rep M F θ v d) (e : tyD S d = some t) (hc : ∀ c, t = .inr c → IsC M.K (M.γ c)) : TyX M.K H v (tyV M.γ t) := by
  cases r with
  | non => cases e; exact .base .non
  | bl b => cases e; exact .base (.bl b)
  | int i => cases e; exact .base (.int i)
  | str x => cases e; exact .base (.str x)
  | lst h _ => cases e; exact .base (.lst (hh.sub _ _ h))
  | ins h _ =>
    cases e
    have q := hc _ rfl
    exact .base (.ins (hh.sub _ _ h) q.cl q.ha q.hn q.ht q.hm)
  | @cell kk a h =>
    simp only [tyD] at e
    split at e
    · rename_i l hS
      cases e
      obtain ⟨_, o, h5, h6⟩ := hh.live kk a _ h hS (by intro z; cases z)
      cases o <;> first | exact h6.elim | skip
      exact .base (.lst h5)
    · rename_i c fs hS
      cases e
      obtain ⟨_, o, h5, h6⟩ := hh.live kk a _ h hS (by intro z; cases z)
      cases o <;> first | exact h6.elim | skip
      obtain ⟨rfl, h6⟩ := h6
      have q := hc _ rfl
      exact .base (.ins h5 q.cl q.ha q.hn q.ht q.hm)
    · cases e
  | _ => simp [tyD] at e
def bIsi (cc : Nat) (sub : String ⊕ Nat → Option Bool) : Fn := fun ds S => match ds with
  | [d, .cls c'] => if c' = cc then (match (tyD S d).bind sub with
    | some b => .ok (.bl b) S
    | none => .bad) else .bad
  | _ => .bad
theorem isS_ok {cc : Nat} (h : IsC X.K (γ cc)) : ∀ t b, isS cc t = some b → PySem.W.kitOne X.K (tyV γ t) (.ref (γ cc)) = some b ∧ ∀ c, t = .inr c → IsC X.K (γ c) := by
  intro t b hb
  cases t with
  | inl T => cases hb
  | inr c =>
    simp only [isS] at hb
    by_cases hc : c = cc
    · subst hc
      rw [if_pos rfl] at hb
      cases hb
      exact ⟨kit_self, fun c' h' => by cases h'; exact h⟩
    · rw [if_neg hc] at hb; cases hb
theorem bu_isi {cc : Nat} {sub : String ⊕ Nat → Option Bool} (hs : ∀ t b, sub t = some b → PySem.W.kitOne X.K (tyV γ t) (.ref (γ cc)) = some b ∧ ∀ c, t = .inr c → IsC X.K (γ c)) : BuD γ X W (.builtin "isinstance") (bIsi cc sub) :=
  .of call_isi fun Φ F θ S ds vs σ H Q rd hh p => by
  match ds, rd, p with
  | [], _, p => exact p.elim
  | [_], _, p =>
    unfold bIsi at p
    split at p
    · rename_i q; cases q
    · exact p.elim
  | _ :: _ :: _ :: _, _, p =>
    unfold bIsi at p
    split at p
    · rename_i q; cases q
    · exact p.elim
  | [d, e], rd, p =>
    obtain ⟨v, w, rfl, r1, r2⟩ := reps2 rd
    cases r2 with
    | cls cq =>
      simp only [bIsi] at p
      obtain ⟨rfl, p2⟩ := post_if p
      cases ht : tyD S d with
      | none => rw [ht] at p2; exact p2.elim
      | some t =>
        rw [ht] at p2
        simp only [Option.bind_some] at p2
        cases hb : sub t with
        | none => rw [hb] at p2; exact p2.elim
        | some b =>
          rw [hb] at p2
          obtain ⟨h1, h2⟩ := hs t b hb
          exact ⟨v, .ref (γ _), _, .ref (γ _), b, rfl, .own _, tyD_rep hh r1 ht h2, h1, p2.ok hh (.bl b)⟩
    | _ => exact p.elim
end
end DL

/-! The D layer, 13: the own ==, != and len. -/
namespace DL
open PySem PySem.Spec PyProof.Rows L2

/-- a method by its def -/
structure Own (γ : Nat → Addr) (P : Program) (w : World) (K : PySem.W.Frag) (mg : Str → Option Value) (base : Heap) (c : Nat) (m : Str) (j n : Nat) (g : Fn) : Prop where
  ex : ∃ (f : Addr) (fd : FuncData) (ps : List Str), Cls K (γ c) ∧ Meth K (γ c) m f ∧ Binds K fd ps [] ∧ FnG P w K mg base j f fd ps (spD ⟨K, γ⟩ (n + 1) g)
theorem Own.mth {γ : Nat → Addr} {P : Program} {w : World} {K : PySem.W.Frag} {mg : Str → Option Value} {base : Heap} {c : Nat} {m : Str} {j n : Nat} {g : Fn} (h : Own γ P w K mg base c m j n g) : Mth γ P w K mg base c m j n g :=
  let ⟨_, _, _, a, b, d, e⟩ := h.ex
  .of e a b d
section
variable {γ : Nat → Addr} {X : Cx} {W : WX} {N : List Str} {sc : Scope} {k : Nat} {pos : Pos}
/-- the def run anywhere below -/
theorem callA {A : Around} {j n : Nat} {f : Addr} {fd : FuncData} {ps : List Str} {g : Fn} (FF : FnG X.prog X.w X.K X.mg X.base j f fd ps (spD ⟨X.K, γ⟩ n g)) (hb : Binds X.K fd ps []) (hr : Room j A) (hg : A.guards = some []) (hf : A.frames = X.A.frames) (tk : Takes X W)
    {pins : List (Addr × Obj)} {s : Shared} {σ : L2.St} {H : Hp} {vs : List V} {us : List Value} {Q : VK} {Φ F : Hp} {θ : List Addr} {S : Sto} {ds : List Dv} (I : Inv X pins σ H s) (rv : Vals vs us) (rd : Reps ⟨X.K, γ⟩ F θ vs ds) (hh : HA ⟨X.K, γ⟩ Φ F θ S H) (hl : ds.length = n)
    (p : PostG ⟨X.K, γ⟩ Φ W σ F θ (Rep ⟨X.K, γ⟩) (g ds S) Q) : wpAny (model X.prog X.w) A (call (.ref f) us) (EP X pins σ Q) X.xe s := by
  have hsp : spD ⟨X.K, γ⟩ n g vs H Q (fun c d H' => W c d σ H') := ⟨by rw [rd.length]; exact hl, ds, Φ, F, θ, S, rd, hh, by
    revert p
    cases g ds S with
    | ok d S' => exact fun p => p
    | exc c d S' => exact fun p => p
    | bad => exact fun p => p⟩
  have hl2 : us.length = ps.length := by rw [← rv.length]; exact FF.len _ _ _ _ hsp
  have hb' := hb s us I.kIn (by rw [List.append_nil]; exact hl2)
  rw [List.append_nil] at hb'
  have e0 : Env0 X.prog X.w X.K X.mg X.base A X.stack s H := by
    have e := I.env0
    exact ⟨by rw [hf]; exact e.frames, e.mod, e.bs, e.bsz, e.funs, e.frf, e.hok, e.bare⟩
  refine wpAny_call (codeAny_mono (FF.run A X.stack s H ⟨us, []⟩ us vs Q _ hr hg e0 hb' rv hsp) fun r s' hq => ?_)
  cases r with
  | error e => exact tk e s' (XE.of_call I (fun cls d H' h => h) hq)
  | ok fl =>
    cases fl with
    | ret u => exact I.after hq
    | next => exact False.elim hq
    | brk => exact False.elim hq
    | cont => exact False.elim hq
def isOf (c : Nat) (S : Sto) (d : Dv) : Bool := match insOf S d with
  | some (c', _) => decide (c' = c)
  | none => false
theorem isOf_rep {M : Ev} {Φ F : Hp} {θ : List Addr} {S : Sto} {H : Hp} {v : V} {d : Dv} {c : Nat} (hh : HA M Φ F θ S H) (r : Rep M F θ v d) (e : isOf c S d = true) : ∃ a dx gs, v = .ref a ∧ H a = some (.ins (M.γ c) dx gs) := by
  unfold isOf at e
  cases h : insOf S d with
  | none => rw [h] at e; cases e
  | some p =>
    obtain ⟨c', fs⟩ := p
    rw [h] at e
    obtain rfl : c' = c := of_decide_eq_true e
    obtain ⟨a, dx, gs, rfl, ha, rf⟩ := insOf_rep hh r h
    exact ⟨a, dx, gs, rfl, ha⟩
/-- a bool is wanted -/
def wantB (f : Bool → Bool) : Dv → Sto → Re Dv := fun d S => match d with
  | .bl b => .ok (.bl (f b)) S
  | _ => .bad
/-- x == y, x and y of the class c with an own __eq__ -/
def oOwn (c : Nat) (g : Fn) (f : Bool → Bool) : Dv → Dv → Sto → Re Dv := fun d e S => if isOf c S d = true ∧ isOf c S e = true then (g [d, e] S).bind (wantB f) else .bad
theorem wantB_post {M : Ev} {Φ F : Hp} {θ : List Addr} {S : Sto} {H : Hp} {σ : L2.St} {f : Bool → Bool} {v : V} {d : Dv} {Q : VK} (hh : HA M Φ F θ S H) (r : Rep M F θ v d) (p : PostG M Φ W σ F θ (Rep M) (wantB f d S) Q) : ∃ b, v = .bl b ∧ Q (.bl (f b)) H := by
  cases r with
  | bl b => exact ⟨b, rfl, PostG.ok p hh (Rep.bl (f b))⟩
  | _ => exact p.elim
theorem notFirst_self {K : PySem.W.Frag} {C : Addr} : PySem.W.notFirst K C (.ref C) = true := by simp [PySem.W.notFirst]
theorem od_own {cc j : Nat} {g : Fn} (c : Ctx X W N sc k) (h : Own γ X.prog X.w X.K X.mg X.base cc "__eq__" j 1 g) (hj : j ≤ k := by decide) : OpD γ X W (compareOp .Eq) (oOwn cc g id) := by
  intro pins s σ H x y v u Q Φ F θ S d e I rx ry rd re hh p
  obtain ⟨f, fd, ps, cl, hm, hb, FF⟩ := h.ex
  obtain ⟨⟨h1, h2⟩, p⟩ := post_if p
  obtain ⟨a, dx, gs, rfl, ha⟩ := isOf_rep hh rd h1
  obtain ⟨a', dx', gs', rfl, ha'⟩ := isOf_rep hh re h2
  cases rx
  cases ry
  obtain ⟨mA, J, _⟩ := ins_get I.hok ha
  obtain ⟨mB, J', _⟩ := ins_get I.hok ha'
  obtain ⟨od, J, _⟩ := J.look
  obtain ⟨od', J', _⟩ := J'.look
  obtain ⟨m, hF⟩ := I.fr
  have hr := c.hr.mono hj
  show wpAny (model X.prog X.w) X.A (richCompare .Eq (.ref a) (.ref a')) _ _ _
  refine PySem.W.cmp_K (op := .Eq) (tb := .ref (γ cc)) hr.units0 hF I.ok.mod.kin J J'.type notFirst_self hm.at_ hm.fn ?_
  refine wpAny_mono (callA FF hb hr c.gd rfl c.tk (vs := [V.ref a, V.ref a']) (Q := fun w H' => ∃ b, w = .bl b ∧ Q (.bl b) H') I (.cons rfl (.cons rfl .nil)) (.cons rd (.cons re .nil)) hh rfl (PostG.seq p fun d' S' w' F' θ' H' _ g1 hh' r' p' => wantB_post hh' r' p')) (fun r s' q => ?_) fun _ _ x => x
  obtain ⟨w', H', I', rw', b, rfl, q⟩ := q
  cases rw'
  exact ⟨.bl b, H', I', rfl, q⟩
end
end DL
namespace PySem.W
open PySem PySem.Calls PyProof.Rows Builtin
section
variable {prog : Program} {w : World} {A : Around} {E : Value → Shared → Prop} {s : Shared} {K : Frag} {x y C L f : Addr} {ox oy : Obj} {od od' : Option Obj}
theorem ne_bound {M : Model} {args : List Value} {Q : Option Value → Shared → Prop} (hK : K.In s.heap) (J : InstAt s.heap x ox C od) (hs : findIn K (.ref C) "__ne__" = some (some (.builtin "object.__ne__")))
    (h : wpAny M A (call (.builtin "object.__ne__") (.ref x :: args)) (fun v => Q (some v)) E s) : wpAny M A (callSpecialIfBound? (.ref x) "__ne__" args) Q E s := by
  simp only [callSpecialIfBound?, bindSpecialIfBound?]
  refine wpAny_holding (wpAny_bind (wpAny_bind (wpAny_bind (J.type.here ((looks_findIn hK hs).here ?_)))))
  refine wpAny_bind (wpAny_askSetting (wpAny_ite ?_))
  have hbd : bindSpecial (.builtin "object.__ne__") (.ref x) = pure (.builtin "object.__ne__", [.ref x]) := PySem.F.slot_zip_ne.bind _
  have goal1 : wpAny M A (call (.builtin "object.__ne__") ([.ref x] ++ args) >>= fun v => pure (some v)) Q E s := wpAny_bind (wpAny_mono h (fun v s' hv => wpAny_pure hv) fun _ _ hv => hv)
  split
  · rw [hbd]; exact wpAny_bind (wpAny_pure (wpAny_pure goal1))
  · rw [hbd]; exact wpAny_tryCatch (wpAny_bind (wpAny_pure (wpAny_pure goal1)))
theorem ne_own {Q : Value → Shared → Prop} (hu : A.units + 1 < cLine) (hK : K.In s.heap) (J : InstAt s.heap x ox C od) (J' : InstAt s.heap y oy C od') (hs : findIn K (.ref C) "__ne__" = some (some (.builtin "object.__ne__"))) (he : findIn K (.ref C) "__eq__" = some (some (.ref f))) (hf : isFn K (.ref f) = true)
    (hob : mroIn K C (.type "object") = some true)
    (hcall : wpAny (model prog w) A.in1 (call (.ref f) [.ref x, .ref y]) (fun v s' => ∃ b, v = .bool b ∧ Q (.bool (!b)) s') E s) : wpAny (model prog w) A (richCompare .NotEq (.ref x) (.ref y)) Q E s := by
  have inner : wpAny (model prog w) A.in1 (Builtin.«object.__ne__» ⟨[.ref x, .ref y], []⟩) (fun fin s' => match fin with
      | .done (.ret v) => ∃ b, v = .bool b ∧ Q (.bool b) s'
      | _ => False) E s := by
    unfold Builtin.«object.__ne__»
    repeat (first
      | with_reducible refine wpAny_cRoomFor (show A.in1.units < cLine from hu) ?_
      | (refine wpAny_bind (m := callSpecialIfBound? (.ref x) (Str.ofString "__eq__") [.ref y]) (ifBound_K hK J he hf (wpAny_mono hcall (fun r s' hr => by
            obtain ⟨b, rfl, hq⟩ := hr
            repeat (first | exact ⟨_, rfl, hq⟩ | exact wpAny_pure ⟨_, rfl, hq⟩ | exact wpAny_truthy_bool ⟨_, rfl, hq⟩ | (refine wpAny_bind (m := truthy (.bool _)) (wpAny_truthy_bool ?_)) | wp_step)) fun _ _ e => e)))
      | wp_step)
  have subx : Looks (model prog w) s.heap (isInstance (.ref x) (.type "object")) true := J.type.andThen (looks_mroIn hK hob)
  have tried : wpAny (model prog w) A (tryCompare (.ref x) "__ne__" (.ref y)) (fun r s' => ∃ b, r = some (.bool b) ∧ Q (.bool b) s') E s := by
    simp only [tryCompare]
    refine wpAny_bind (ne_bound hK J hs (wpAny_call (codeAny_call_builtin PySem.F.slot_zip_ne.plain PySem.F.cmpEntry_ne (@check_slot (model prog w) _ _ s "object.__ne__" "object" "__ne__" (.ref x) [.ref y] [] _ PySem.F.cmpKind_ne PySem.F.cmpSplit_ne subx (PySem.F.cmpArgs_ne _ _) ?_))))
    refine wpAny_mono inner (fun fin s' q => ?_) fun _ _ e => e
    cases fin with
    | done fl =>
      cases fl with
      | ret v =>
        obtain ⟨b, rfl, q⟩ := q
        first | exact wpAny_pure ⟨b, rfl, q⟩ | exact ⟨b, rfl, q⟩ | exact wpAny_pure (wpAny_pure ⟨b, rfl, q⟩)
      | _ => exact q.elim
    | _ => exact q.elim
  unfold richCompare
  simp only [oneThing_ref]
  refine wpAny_holding ?_
  refine wpAny_bind (wpAny_cRoomFor (Nat.lt_of_succ_lt hu) ?_)
  rw [cmpInfo_NotEq]
  dsimp only
  refine wpAny_bind (J.type.here (wpAny_bind (J'.type.here ?_)))
  rw [show (Value.ref C != Value.ref C) = false from by simp]
  simp only [Bool.false_eq_true, if_false]
  refine wpAny_bind (wpAny_pure ?_)
  simp only [Bool.false_eq_true, if_false]
  refine wpAny_bind (wpAny_mono tried (fun v s' hv => ?_) fun _ _ e => e)
  obtain ⟨b, rfl, hq⟩ := hv
  first | exact wpAny_pure hq | exact wpAny_pure (wpAny_pure hq)
end
end PySem.W
namespace DL
open PySem PySem.Spec PyProof.Rows L2
section
variable {γ : Nat → Addr} {X : Cx} {W : WX} {N : List Str} {sc : Scope} {k : Nat} {pos : Pos}
theorem od_ownNe {cc j : Nat} {g : Fn} (c : Ctx X W N sc k) (h : Own γ X.prog X.w X.K X.mg X.base cc "__eq__" j 1 g) (hs : PySem.W.findIn X.K (.ref (γ cc)) "__ne__" = some (some (.builtin "object.__ne__"))) (hob : PySem.W.mroIn X.K (γ cc) (.type "object") = some true) (hj : j + 1 ≤ k := by decide) :
    OpD γ X W (compareOp .NotEq) (oOwn cc g not) := by
  intro pins s σ H x y v u Q Φ F θ S d e I rx ry rd re hh p
  obtain ⟨f, fd, ps, cl, hm, hb, FF⟩ := h.ex
  obtain ⟨⟨h1, h2⟩, p⟩ := post_if p
  obtain ⟨a, dx, gs, rfl, ha⟩ := isOf_rep hh rd h1
  obtain ⟨a', dx', gs', rfl, ha'⟩ := isOf_rep hh re h2
  cases rx
  cases ry
  obtain ⟨mA, J, _⟩ := ins_get I.hok ha
  obtain ⟨mB, J', _⟩ := ins_get I.hok ha'
  obtain ⟨od, J, _⟩ := J.look
  obtain ⟨od', J', _⟩ := J'.look
  have hr := c.hr.mono hj
  show wpAny (model X.prog X.w) X.A (richCompare .NotEq (.ref a) (.ref a')) _ _ _
  refine PySem.W.ne_own (hu_of c.hr) I.kIn J J' hs hm.at_ hm.fn hob ?_
  refine wpAny_mono (callA FF hb hr.in1 c.gd rfl c.tk (vs := [V.ref a, V.ref a']) (Q := fun w H' => ∃ b, w = .bl b ∧ Q (.bl (!b)) H') I (.cons rfl (.cons rfl .nil)) (.cons rd (.cons re .nil)) hh rfl (PostG.seq p fun d' S' w' F' θ' H' _ g1 hh' r' p' => wantB_post hh' r' p')) (fun r s' q => ?_) fun _ _ x => x
  obtain ⟨w', H', I', rw', b, rfl, q⟩ := q
  cases rw'
  exact ⟨b, rfl, .bl (!b), H', I', rfl, q⟩
/-- len(o) of an own __len__ -/
def bLenO (c : Nat) (g : Fn) : Fn := fun ds S => match ds with
  | [d] => if isOf c S d = true then (g [d] S).bind fun r S' => match r with
    | .int i => if 0 ≤ i ∧ i < 2 ^ 63 then .ok (.int i) S' else .bad
    | _ => .bad else .bad
  | _ => .bad
theorem bu_lenO {cc j : Nat} {g : Fn} (c : Ctx X W N sc k) (h : Own γ X.prog X.w X.K X.mg X.base cc "__len__" j 0 g) (hj : j + 1 ≤ k := by decide) : BuD γ X W (.builtin "len") (bLenO cc g) := by
  intro pins s σ H vs us Q Φ F θ S ds I rv rd hh p
  obtain ⟨f, fd, ps, cl, hm, hb, FF⟩ := h.ex
  match ds, rd, p with
  | [], _, p => exact p.elim
  | _ :: _ :: _, _, p => exact p.elim
  | [d], rd, p =>
    obtain ⟨v, rfl, r⟩ := reps1 rd
    obtain ⟨h1, p⟩ := post_if p
    obtain ⟨a, dx, gs, rfl, ha⟩ := isOf_rep hh r h1
    obtain ⟨u1, rfl, q1⟩ := vals1 rv
    cases q1
    obtain ⟨mA, J, _⟩ := ins_get I.hok ha
    obtain ⟨od, J, _⟩ := J.look
    obtain ⟨m, hF⟩ := I.fr
    have hr := c.hr.mono hj
    refine PySem.W.len_K hF I.ok.mod.kin J hm.at_ hm.fn ?_
    refine wpAny_mono (callA FF hb hr.in1 c.gd rfl c.tk (vs := [V.ref a]) (Q := fun w H' => ∃ i, w = .int i ∧ (0 ≤ i ∧ i < 2 ^ 63) ∧ Q (.int i) H') I (.cons rfl .nil) (.cons r .nil) hh rfl (PostG.seq p fun d' S' w' F' θ' H' _ g1 hh' r' p' => by
      cases r' with
      | int i =>
        obtain ⟨hi, p2⟩ := post_if p'
        exact ⟨i, rfl, hi, p2.ok hh' (.int i)⟩
      | _ => exact p'.elim)) (fun r s' q => ?_) fun _ _ x => x
    obtain ⟨w', H', I', rw', i, rfl, hi, q⟩ := q
    obtain ⟨t, rfl⟩ := (show ∃ t, r = Value.int i t from rw')
    exact ⟨hi, .int i, H', I'.tok _, ⟨_, rfl⟩, q⟩
end
end DL

/-! The D layer, 14: sorted, repr, lists put together in a cell. -/
namespace DL
open PySem PySem.Spec PyProof.Rows L2
section
variable {γ : Nat → Addr} {X : Cx} {W : WX} {N : List Str} {sc : Scope} {k : Nat} {pos : Pos}

/-! ### sorted -/
def tupD : PyData → Bool
  | .tuple (_ :: _) => true
  | _ => false
def flatD : PyData → Bool
  | .none => false
  | .tuple _ => false
  | _ => true
def sortOk (ps : List PyData) : Bool := ps.all (fun p => ps.all fun q => PySem.W.alike p q) && ((ps.all tupD || ps.all flatD) && (ps.all (fun p => decide (p.depth ≤ 16)) && decide (ps.length ≤ sizeLine)))
/-- the items, sorted by their data -/
noncomputable def sortD (l : List Dv) (ps : List PyData) : List Dv := ((l.zip ps).mergeSort (PySem.W.dataLe false fun b : Dv × PyData => b.2)).map (·.1)
theorem sortOk_of {ps : List PyData} (h : sortOk ps = true) : PySem.W.AllAlike ps ∧ PySem.W.Sortable ps ∧ (∀ p ∈ ps, p.depth ≤ 16) ∧ ps.length ≤ sizeLine := by
  unfold sortOk at h
  simp only [Bool.and_eq_true, Bool.or_eq_true, List.all_eq_true, decide_eq_true_eq] at h
  obtain ⟨h1, h2, h3, h4⟩ := h
  refine ⟨h1, ?_, h3, h4⟩
  rcases h2 with h2 | h2
  · refine .inl fun d hd => ?_
    have q := h2 d hd
    unfold tupD at q
    split at q
    · exact ⟨_, _, rfl⟩
    · cases q
  · refine .inr fun d hd => ?_
    have q := h2 d hd
    refine ⟨?_, ?_⟩
    · rintro rfl; cases q
    · rintro xs rfl; cases q
theorem each_zip {M : Ev} {F : Hp} {θ : List Addr} {s : Shared} {H : Hp} {pins : List (Addr × Obj)} {σ : L2.St} (I : Inv X pins σ H s) : ∀ {vs : List V} {us : List Value} {l : List Dv} {ps : List PyData}, Vals vs us → Reps M F θ vs l → DpAll X.K H vs ps →
    PySem.W.EachIs (fun u (b : Dv × PyData) => ∃ x, RelV x u ∧ Rep M F θ x b.1) us (l.zip ps) ∧ PySem.W.EachIs (fun u (b : Dv × PyData) => ∃ as, Reads s.heap u b.2 as) us (l.zip ps) ∧ (l.zip ps).map (·.2) = ps
  | _, _, _, _, .nil, .nil, .nil => ⟨.nil, .nil, rfl⟩
  | _, _, _, _, .cons r t, .cons d t2, .cons p t3 => by
    obtain ⟨h1, h2, h3⟩ := each_zip I t t2 t3
    exact ⟨.cons ⟨_, r, d⟩ h1, .cons (Dp.reads I _ _ _ p r) h2, by simp [h3]⟩
theorem each_back {M : Ev} {F : Hp} {θ : List Addr} : ∀ {us : List Value} {bs : List (Dv × PyData)}, PySem.W.EachIs (fun u (b : Dv × PyData) => ∃ x, RelV x u ∧ Rep M F θ x b.1) us bs → ∃ xs, Vals xs us ∧ Reps M F θ xs (bs.map (·.1))
  | _, _, .nil => ⟨[], .nil, .nil⟩
  | _, _, .cons ⟨x, r, d⟩ t => by
    obtain ⟨xs, h1, h2⟩ := each_back t
    exact ⟨x :: xs, .cons r h1, .cons d h2⟩
noncomputable def bSorted : Fn := fun ds S => match ds with
  | [d] => match asR S d with
    | some l => match toPys S l with
      | some ps => if sortOk ps = true then .ok (.lst (sortD l ps)) S else .bad
      | none => .bad
    | none => .bad
  | _ => .bad
theorem zip_len {M : Ev} {F : Hp} {θ : List Addr} {K : PySem.W.Frag} {H : Hp} : ∀ {vs : List V} {l : List Dv} {ps : List PyData}, Reps M F θ vs l → DpAll K H vs ps → (l.zip ps).length = ps.length
  | _, _, _, .nil, .nil => rfl
  | _, _, _, .cons _ t, .cons _ t2 => by simp [List.zip_cons_cons, zip_len t t2]
theorem bu_sorted (c : Ctx X W N sc k) : BuD γ X W (.builtin "sorted") bSorted := by
  intro pins s σ H vs us Q Φ F θ S ds I rv rd hh p
  match ds, rd, p with
  | [], _, p => exact p.elim
  | _ :: _ :: _, _, p => exact p.elim
  | [d], rd, p =>
    obtain ⟨v, rfl, r⟩ := reps1 rd
    unfold bSorted at p
    dsimp only at p
    cases hl : asR S d with
    | none => rw [hl] at p; exact p.elim
    | some l =>
      rw [hl] at p
      dsimp only at p
      cases hp : toPys S l with
      | none => rw [hp] at p; exact p.elim
      | some ps =>
        rw [hp] at p
        obtain ⟨ho, p2⟩ := post_if p
        obtain ⟨hal, hk, hd, hz⟩ := sortOk_of ho
        obtain ⟨a, xs, rfl, hs, rx⟩ := asR_rep r hh hl
        obtain ⟨its, rv2, hli, _⟩ := I.list hs
        rw [Vals.ref1 rv]
        obtain ⟨e1, e2, e3⟩ := each_zip (M := ⟨X.K, γ⟩) I rv2 rx (toPys_rep hh rx hp)
        have hzl := zip_len rx (toPys_rep hh rx hp)
        refine PySem.W.sorted_data (enc := fun b : Dv × PyData => b.2) (bs := l.zip ps) hli.isList e1 e2 (by rw [e3]; exact hal) (by rw [e3]; exact hk) (by rw [hzl]; exact hz) (fun b hb => ?_) fun out h1 h2 => ?_
        · have : b.2 ∈ ps := by rw [← e3]; exact List.mem_map_of_mem hb
          have z := hd _ this
          have z2 := units65 c
          show X.A.units + 2 + b.2.depth < cLine
          omega
        · obtain ⟨zs, q1, q2⟩ := each_back h2
          obtain ⟨ep, he'⟩ := PyProof.Rows.sortedAll_at s.heap its out.toArray
          have hlen : zs.length ≤ sizeLine := by rw [q1.length, h1, hzl]; exact hz
          have hn : H (s.heap.objs.size + 1) = none := I.hok.fresh (Nat.le_succ _)
          obtain ⟨g2, hh2⟩ := hh.alloc (.lst zs) hn
          exact ⟨.ref _, upd H (s.heap.objs.size + 1) (.lst zs), I.laid (t' := s.toks) (fun _ _ => PyProof.Rows.sortedAll_old) (Nat.le_succ _) ⟨hlen, out, ep, q1, he'⟩, rfl, p2 _ _ _ _ g2 hh2 (.lst upd_same (q2.ext g2))⟩

/-! ### repr -/
def reprOk (p : PyData) : Bool := p.showable && (!p.hasDict && (decide (p.shown.length ≤ sizeLine) && decide (p.depth ≤ 16)))
def boxD : Dv → Bool
  | .tup _ => true
  | .ktup _ => true
  | .lst _ => true
  | .ro _ => true
  | .cell _ => true
  | .non => true
  | .bl _ => true
  | .str _ => true
  | .int i => decide (i.natAbs.log2 < 1920)
  | _ => false
def bRepr : Fn := fun ds S => match ds with
  | [d] => if boxD d = true then (match toPy S d with
    | some p => if reprOk p = true then .ok (.str p.shown) S else .bad
    | none => .bad) else .bad
  | _ => .bad
theorem box_ref {M : Ev} {F : Hp} {θ : List Addr} {v : V} {d : Dv} (r : Rep M F θ v d) (h : boxD d = true) : (∃ a, v = .ref a) ∨ (v = .non ∧ d = .non) ∨ (∃ b, v = .bl b ∧ d = .bl b) ∨ (∃ x, v = .str x ∧ d = .str x) ∨ ∃ i, v = .int i ∧ d = .int i ∧ i.natAbs.log2 < 1920 := by
  cases r <;> first | exact .inl ⟨_, rfl⟩ | exact .inr (.inl ⟨rfl, rfl⟩) | exact .inr (.inr (.inl ⟨_, rfl, rfl⟩)) | exact .inr (.inr (.inr (.inl ⟨_, rfl, rfl⟩))) | exact .inr (.inr (.inr (.inr ⟨_, rfl, rfl, of_decide_eq_true h⟩))) | cases h
theorem bu_repr (c : Ctx X W N sc k) : BuD γ X W (.builtin "repr") bRepr := by
  intro pins s σ H vs us Q Φ F θ S ds I rv rd hh p
  match ds, rd, p with
  | [], _, p => exact p.elim
  | _ :: _ :: _, _, p => exact p.elim
  | [d], rd, p =>
    obtain ⟨v, rfl, r⟩ := reps1 rd
    obtain ⟨hb, p1⟩ := post_if p
    cases hp : toPy S d with
    | none => rw [hp] at p1; exact p1.elim
    | some q =>
      rw [hp] at p1
      obtain ⟨ho, p2⟩ := post_if p1
      rcases box_ref r hb with ⟨a, rfl⟩ | ⟨rfl, rfl⟩ | ⟨b, rfl, rfl⟩ | ⟨x, rfl, rfl⟩ | ⟨i, rfl, rfl, hi⟩
      rotate_left
      · rw [toPy] at hp
        cases hp
        obtain ⟨u, rfl, hu⟩ := vals1 rv
        cases hu
        exact PySem.P.repr_of_none ⟨.str _, H, I.tok _, ⟨_, rfl⟩, by rw [PyData.shown] at p2; exact p2.ok hh (.str _)⟩
      · rw [toPy] at hp
        cases hp
        obtain ⟨u, rfl, hu⟩ := vals1 rv
        cases hu
        exact PySem.P.repr_of_bool ⟨.str _, H, I.tok _, ⟨_, rfl⟩, by rw [PyData.shown] at p2; exact p2.ok hh (.str _)⟩
      · rw [toPy] at hp
        cases hp
        obtain ⟨u, rfl, t, rfl⟩ := vals1 rv
        unfold reprOk at ho
        simp only [Bool.and_eq_true, Bool.not_eq_true', decide_eq_true_eq, PyData.shown] at ho
        exact PySem.P.repr_of_str ⟨.str _, H, I.tok _, ⟨_, rfl⟩, by rw [PyData.shown] at p2; exact p2.ok hh (.str _)⟩ (of_decide_eq_true ho.2.2.1)
      · rw [toPy] at hp
        cases hp
        obtain ⟨u, rfl, t, rfl⟩ := vals1 rv
        exact PySem.P.repr_of_int hi ⟨.str _, H, I.tok _, ⟨_, rfl⟩, by rw [PyData.shown] at p2; exact p2.ok hh (.str _)⟩
      rw [Vals.ref1 rv]
      obtain ⟨as, hr⟩ := Dp.reads I _ _ _ (toPy_rep hh r hp) (show RelV (.ref a) (.ref a) from rfl)
      unfold reprOk at ho
      simp only [Bool.and_eq_true, Bool.not_eq_true', decide_eq_true_eq] at ho
      obtain ⟨o1, o2, o3, o4⟩ := ho
      have z2 := units65 c
      exact repr_of_reads' hr o1 (PyData.noDict_hsm o2) c.gd (by show X.A.units + (q.depth + 1) < cLine; omega) (fun _ _ e => e) (fun h' u tk hk => ⟨.str q.shown, H, I.kept (t' := tk) hk, ⟨_, rfl⟩, p2.ok hh (.str _)⟩) o3

/-! ### two lists, put together in a cell -/
def oAddC : Dv → Dv → Sto → Re Dv := fun d e S => match asL S d, asL S e with
  | some l, some m => mkC (l ++ m) S
  | _, _ => .bad
theorem od_addC : OpD γ X W (binaryOp .Add) oAddC := by
  intro pins s σ H x y v u Q Φ F θ S d e I rx ry rd re hh p
  unfold oAddC at p
  split at p
  · rename_i l m h1 h2
    obtain ⟨a, xs, rfl, e1, r1⟩ := asL_rep rd hh h1
    obtain ⟨b, ys, rfl, e2, r2⟩ := asL_rep re hh h2
    obtain ⟨hl, q⟩ := newC hh (r1.append r2) p
    exact op_cat pins s σ H _ _ v u Q I rx ry ⟨a, b, xs, ys, rfl, rfl, e1, e2, by rw [← List.length_append]; exact hl, q⟩
  · exact p.elim
end
end DL

/-! The D layer, 15: the end. -/
namespace DL
open PySem PySem.Spec PyProof.Rows L2
section
variable {P : Program} {w : World} {K : PySem.W.Frag} {mg mb : Str → Option Value} {fa a : Addr} {fd : FuncData} {x : Str} {s1 : Shared} {vs : List Value} {ns : List Int}
/-- the law called on the script, over a heap in which the script alone may be tracked -/
theorem law_over (H : Hp) {k : Nat} {γ : Nat → Addr} {g : Fn} (KX : K.In s1.heap) (n1 : s1.heap.Ns mainGlobals mg) (n2 : s1.heap.Ns builtinsNs mb) (n3 : ∀ y : Str, y ≠ "__name__" → mb y = bootBuiltins y) (nl : s1.heap.NoLimit) (hg : s1.gens = #[])
    (ha : s1.heap.get? a = some { cls := .type "list", data := .seq vs.toArray }) (hr : Room k callerA)
    (FF : ∀ base : Heap, K.In base → base.Ns mainGlobals mg → FnG P w K mg base k fa fd [x] (spD ⟨K, γ⟩ 1 g)) (hbind : ∀ (s : Shared) (u : Value), BindsTo s fd ⟨[u], []⟩ [(x, u)])
    (hO : Only H) (hS : SqL K H a (ns.map V.int)) (hok : HOk P w H s1.heap) (one : ∀ b, H b ≠ none → b = a) (notK : H a ≠ none → K.lookup a = none) (hres : ∃ S', g [.ro (ns.map .int)] [] = .ok (.bl true) S') :
    codeAny (model P w) callerA (.call (.ref fa) ⟨[.ref a], []⟩) (fun r s' => r = .ok (.ret (.bool true)) ∧ OldK s1.heap s'.heap ∧ s'.os = s1.os ∧ AllBare s'.gens) s1 := by
  -- an object that is no list of that kind is not tracked
  have free : ∀ b o, s1.heap.get? b = some o → (∀ q z, o.data ≠ .seq q z) → H b = none := fun b o hb hd => by
    cases hq : H b with
    | none => rfl
    | some t =>
      obtain rfl := one b (by rw [hq]; exact fun z => nomatch z)
      rw [ha] at hb
      cases hb
      exact absurd rfl (hd _ _)
  have low : ∀ {b : Addr} {m : Str → Option Value}, s1.heap.Ns b m → (hidT s1.heap H).Ns b m := by
    rintro b m ⟨o, es, ep, h1, h2, h3⟩
    exact ⟨o, es, ep, hidT_get h1 (free b o h1 fun q z hz => by rw [h2] at hz; cases hz), h2, h3⟩
  have KB : K.In (hidT s1.heap H) := by
    intro b o hb
    refine hidT_get (KX b o hb) ?_
    cases hq : H b with
    | none => rfl
    | some t =>
      obtain rfl := one b (by rw [hq]; exact fun z => nomatch z)
      have := notK (by rw [hq]; exact fun z => nomatch z)
      rw [hb] at this
      cases this
  obtain ⟨mc, c1, c2⟩ := nl
  have start : Env0 P w K mg (hidT s1.heap H) callerA [] s1 H := by
    refine ⟨rfl, ⟨KB, low n1, ⟨mb, low n2, n3⟩, ⟨mc, low c1, c2⟩⟩, fun b o hb => of_hidT hb, Nat.le_of_eq (hidT_size _ _), trivial, ?_, hok, .of_eq hg⟩
    intro b hb
    cases hb
  obtain ⟨S', hres⟩ := hres
  have allI : ∀ {F : Hp} {θ : List Addr} (l : List Int), Reps ⟨K, γ⟩ F θ (l.map V.int) (l.map Dv.int) := by
    intro F θ l
    induction l with
    | nil => exact .nil
    | cons i r ih => exact .cons (.int i) ih
  have wish : spD ⟨K, γ⟩ 1 g [V.ref a] H (fun v _ => v = .bl true) (fun _ _ _ => False) := by
    refine ⟨rfl, [.ro (ns.map .int)], fun _ => none, H, [], [], .cons (.ro hS (allI ns)) .nil, ⟨fun _ _ h => h, rfl, List.nodup_nil, fun b hb => (by cases hb), fun i b ob h => (by simp at h), fun b o h => (by cases h)⟩, ?_⟩
    rw [hres]
    intro b F' θ' H' _ _ r
    exact rep_bl r
  refine codeAny_mono ((FF _ KB (low n1)).run callerA [] s1 H ⟨[.ref a], []⟩ [.ref a] [V.ref a] _ _ hr rfl start (hbind s1 (.ref a)) (.cons rfl .nil) wish) fun r s' h => ?_
  match r, h with
  | .error e, h =>
    obtain ⟨_, _, _, _, _, _, _, _, _, _, _, _, hf⟩ := h
    exact hf.elim
  | .ok .next, h => exact h.elim
  | .ok .brk, h => exact h.elim
  | .ok .cont, h => exact h.elim
  | .ok (.ret u), ⟨v, H', os, bare, un, hok', rv, q⟩ =>
    subst q
    cases rv
    refine ⟨rfl, OldK.of_keep fun b o hb => ?_, os, bare⟩
    rcases hO b with hn | ⟨ob, xs, hn⟩
    · exact un.keep b o hb hn (fun z => by cases z) (fun z => by cases z)
    · have t1 := (hok b _ hn).1
      have t2 := (hok' b _ (un.frzs b ob _ hn)).1
      rw [hb] at t1
      cases t1
      exact t2
theorem law_callG {k : Nat} {γ : Nat → Addr} {g : Fn} (KX : K.In s1.heap) (n1 : s1.heap.Ns mainGlobals mg) (n2 : s1.heap.Ns builtinsNs mb) (n3 : ∀ y : Str, y ≠ "__name__" → mb y = bootBuiltins y) (nl : s1.heap.NoLimit) (hg : s1.gens = #[])
    (ha : s1.heap.get? a = some { cls := .type "list", data := .seq vs.toArray }) (hi : IntsAre vs ns) (hl : ns.length ≤ sizeLine) (hr : Room k callerA)
    (FF : ∀ base : Heap, K.In base → base.Ns mainGlobals mg → FnG P w K mg base k fa fd [x] (spD ⟨K, γ⟩ 1 g)) (hbind : ∀ (s : Shared) (u : Value), BindsTo s fd ⟨[u], []⟩ [(x, u)])
    (hres : ∃ S', g [.ro (ns.map .int)] [] = .ok (.bl true) S') :
    codeAny (model P w) callerA (.call (.ref fa) ⟨[.ref a], []⟩) (fun r s' => r = .ok (.ret (.bool true)) ∧ OldK s1.heap s'.heap ∧ s'.os = s1.os ∧ AllBare s'.gens) s1 := by
  cases hk : K.lookup a with
  | some o =>
    obtain rfl : o = { cls := .type "list", data := .seq vs.toArray } := Option.some.inj ((KX a o hk).symm.trans ha)
    refine law_over (fun _ => none) KX n1 n2 n3 nl hg ha hr FF hbind (fun b => .inl rfl) (.inr ⟨_, vs.toArray, _, hk, rfl, rfl, rfl, ?_, ?_⟩) (fun b t ht => by cases ht) (fun b hb => absurd rfl hb) (fun hb => absurd rfl hb) hres
    · rw [List.size_toArray, hi.length]; exact hl
    · simpa using vals_ints hi
  | none =>
    have sel : ∀ b t, (if b = a then some (HO.frz { cls := .type "list", data := .seq vs.toArray } (.lst (ns.map V.int))) else none) = some t → b = a ∧ t = .frz { cls := .type "list", data := .seq vs.toArray } (.lst (ns.map V.int)) := by
      intro b t h
      by_cases hb : b = a
      · rw [if_pos hb] at h
        exact ⟨hb, (Option.some.inj h).symm⟩
      · rw [if_neg hb] at h
        cases h
    refine law_over (fun b => if b = a then some (.frz { cls := .type "list", data := .seq vs.toArray } (.lst (ns.map V.int))) else none) KX n1 n2 n3 nl hg ha hr FF hbind (fun b => ?_) (.inl (.inr ⟨{ cls := .type "list", data := .seq vs.toArray }, if_pos rfl⟩)) (fun b t ht => ?_) (fun b hb => ?_) (fun _ => hk) hres
    · by_cases hb : b = a
      · exact .inr ⟨_, _, if_pos hb⟩
      · exact .inl (if_neg hb)
    · obtain ⟨rfl, rfl⟩ := sel b t ht
      exact ⟨ha, by rw [List.length_map]; exact hl, vs, _, vals_ints hi, ha⟩
    · cases hq : (if b = a then some (HO.frz { cls := .type "list", data := .seq vs.toArray } (.lst (ns.map V.int))) else none) with
      | none => exact absurd hq hb
      | some t => exact (sel b t hq).1
end
/-- what k_head leaves, from the law's def -/
theorem walkG {l : PySem.W.OpenLaw} {n k : Nat} {q : Program} {loose : List Str} {XP : (Str → Option Value) → Heap → Prop} {YP : World → Heap → Prop} {d : DefRec} {K : Params → PySem.W.Frag} {x : Str} {g : Fn}
    (hn : l.most = some n) (hn2 : n ≤ sizeLine) (hdf : d.params.defaults = []) (hr : Room k callerA) (hY : ∀ (w : World) (h : Heap), YP w h → (K w.params).In h)
    (FF : ∀ (w : World) (mg : Str → Option Value) (fa : Addr) (h : Heap), (K w.params).In h → h.Ns mainGlobals mg → mg d.name = some (.ref fa) →
      ∃ (γ : Nat → Addr) (fd : FuncData), (∀ (s : Shared) (u : Value), BindsTo s fd ⟨[u], []⟩ [(x, u)]) ∧ ∀ base : Heap, (K w.params).In base → base.Ns mainGlobals mg → FnG l.prog w (K w.params) mg base k fa fd [x] (spD ⟨K w.params, γ⟩ 1 g))
    (hres : ∀ ns : List Int, ns.length ≤ n → ∃ S', g [.ro (ns.map .int)] [] = .ok (.bl true) S') : PySem.W.WalkO q loose XP YP l.row.toRowW d [] (fun f vs => PySem.call f vs) := by
  refine Att.attach_call hn hdf fun w s0 s1 mg mb fa o pm cd doc a vs ns G Y ho hd hcd hmg hobj hints hlen hg => ?_
  obtain ⟨γ, fd, hb, hF⟩ := FF w mg fa s1.heap (hY w _ Y) G.T.g hmg
  exact law_callG (hY w _ Y) G.T.g G.T.b G.T.builtins G.T.nolimit hg hobj hints (Nat.le_trans hlen hn2) hr hF hb (hres ns hlen)
end DL

/-! The D layer, 16: odds and ends. -/
namespace DL
open PySem PySem.Spec PyProof.Rows L2
section
variable {γ : Nat → Addr} {X : Cx} {W : WX} {N : List Str} {sc : Scope} {k : Nat} {pos : Pos}
/-- a text of the module -/
theorem de_gstr {x z : Str} (hsc : X.env.scope = sc) (h : ∃ t, X.mg x = some (.str z t)) (hg : sc.names.lookup x = some .globalImplicit := by rfl) (hd : (x == ("__debug__" : Str)) = false := by decide) : DE γ X W (.Name x pos) (eC (.str z)) := by
  obtain ⟨t, h⟩ := h
  exact de_glob (v := .str z) (show X.env.scope.names.lookup x = some .globalImplicit by rw [hsc]; exact hg) h ⟨t, rfl⟩ (fun _ _ => .str z) hd
theorem sw_par {x y : Str} {a b : Expr} {px py pt : Pos} {kt k2 : Nat} {pt2 : Pos} (c : CtxD X W N sc k) (hk : sc.kind = .function := by rfl) (hx : sc.names.lookup x = some .local := by rfl) (hy : sc.names.lookup y = some .local := by rfl)
    (hl : (py.line == px.line) = true := by rfl) (hne : ([x, y].eraseDups.length != [x, y].length) = false := by decide +kernel) (hst : ([a, b].any fun | .Starred .. => true | _ => false) = false := by rfl)
    (hf : ([a, b].all (foldedForSure 8)) = false := by rfl) (hca : ([a, b].all (constantsAlone 8)) = false := by rfl) :
    swappedStores [.Tuple [.Name x px, .Name y py] kt pt] (.Tuple [a, b] k2 pt2) X.env = pure (some [x, y]) := by
  have e1 : X.env.kindOf x = some .local := by unfold Env.kindOf; rw [c.hsc]; exact hx
  have e2 : X.env.kindOf y = some .local := by unfold Env.kindOf; rw [c.hsc]; exact hy
  have e3 : X.env.blockKind = .function := by
    unfold Env.blockKind
    rw [c.hsc, hk]
    rfl
  have e4 : ([Expr.Name x px, Expr.Name y py].filterMap fun
      | .Name id pos => if X.env.kindOf id == some .local && pos.line == (([Expr.Name x px, Expr.Name y py].head?.map (·.pos.line)).getD 0) then some id else none
      | _ => none) = [x, y] := by
    have z : (([Expr.Name x px, Expr.Name y py].head?.map (·.pos.line)).getD 0) = px.line := rfl
    rw [z]
    have hl2 : py.line = px.line := by simpa using hl
    simp [List.filterMap, e1, e2, hl2]
  unfold swappedStores
  simp only [e3]
  rw [show ((!([Expr.Name x px, Expr.Name y py].length == 2 || [Expr.Name x px, Expr.Name y py].length == 3) || [a, b].length != [Expr.Name x px, Expr.Name y py].length || ScopeKind.function != ScopeKind.function)) = false from rfl]
  rw [if_neg Bool.false_ne_true]
  refine (if_neg (fun h => Bool.noConfusion (h.symm.trans hst))).trans ?_
  refine (if_neg (fun h => ?_)).trans ?_
  · have h2 : (([x, y].length != [Expr.Name x px, Expr.Name y py].length) || ([x, y].eraseDups.length != [x, y].length)) = true := by
      rw [← e4]; exact h
    rw [hne] at h2
    cases h2
  refine (if_neg (fun h => Bool.noConfusion (h.symm.trans hf))).trans ?_
  refine (if_neg (fun h => Bool.noConfusion (h.symm.trans hca))).trans ?_
  exact congrArg (fun l => (pure (some l) : Sem (Option (List Str)))) e4
theorem sw_cap {x y : Str} {a b : Expr} {px py pt : Pos} {kt k2 : Nat} {pt2 : Pos} (c : CtxD X W N sc k) (hk : sc.kind = .function := by rfl) (hx : sc.names.lookup x = some .local := by rfl) (hy : (sc.names.lookup y == some .local) = false := by rfl)
    (hst : ([a, b].any fun | .Starred .. => true | _ => false) = false := by rfl) :
    swappedStores [.Tuple [.Name x px, .Name y py] kt pt] (.Tuple [a, b] k2 pt2) X.env = pure none := by
  have e1 : X.env.kindOf x = some .local := by unfold Env.kindOf; rw [c.hsc]; exact hx
  have e2 : (X.env.kindOf y == some .local) = false := by unfold Env.kindOf; rw [c.hsc]; exact hy
  have e3 : X.env.blockKind = .function := by
    unfold Env.blockKind
    rw [c.hsc, hk]
    rfl
  have e4 : ([Expr.Name x px, Expr.Name y py].filterMap fun
      | .Name id pos => if X.env.kindOf id == some .local && pos.line == (([Expr.Name x px, Expr.Name y py].head?.map (·.pos.line)).getD 0) then some id else none
      | _ => none) = [x] := by
    have z : (([Expr.Name x px, Expr.Name y py].head?.map (·.pos.line)).getD 0) = px.line := rfl
    rw [z]
    simp only [List.filterMap, e1, e2, Bool.false_and]
    simp
  unfold swappedStores
  simp only [e3]
  rw [show ((!([Expr.Name x px, Expr.Name y py].length == 2 || [Expr.Name x px, Expr.Name y py].length == 3) || [a, b].length != [Expr.Name x px, Expr.Name y py].length || ScopeKind.function != ScopeKind.function)) = false from rfl]
  rw [if_neg Bool.false_ne_true]
  refine (if_neg (fun h => Bool.noConfusion (h.symm.trans hst))).trans ?_
  refine (if_pos ?_).trans rfl
  have h2 : (([x].length != [Expr.Name x px, Expr.Name y py].length) || ([x].eraseDups.length != [x].length)) = true := rfl
  rw [← e4] at h2; exact h2
theorem sw_const {ts : List Expr} {vs : List Expr} {k2 kt : Nat} {pt pt2 : Pos} {env : Env} (hf : (vs.all (foldedForSure 8)) = true := by rfl) : swappedStores [.Tuple ts kt pt] (.Tuple vs k2 pt2) env = pure none := by
  unfold swappedStores
  dsimp only
  split
  · rfl
  · split
    · rfl
    · split
      · rfl
      · first
        | rfl
        | (rw [if_pos hf])
end
theorem Fun.kb {K : PySem.W.Frag} {x qual : Str} {st : Stmt} {f : Addr} {fd : FuncData} {ps ks : List Str} {n : Nat} {perm : List Nat} (F : Fun K x qual st f fd)
    (h : ∀ (kV doc pm : Value) (an : Option Addr) (cdv ct : Value) (us ws : List Value), us.length = n → ws.length = ks.length → bindArgs (PySem.W.fnOf x qual (defArgs st) (defBody st) (defScope st) .none kV doc pm an cdv ct) ⟨us, ks.zip ws⟩ = pure (ps.zip (pick perm (us ++ ws)))) : KB K fd ps n ks perm := by
  obtain ⟨oc, od, kV, doc, pm, an, cdv, ct, osl, rfl, lk, hcd⟩ := F.ex
  exact fun s us ws _ h1 h2 => .of_eq (h kV doc pm an cdv ct us ws h1 h2)
end DL
namespace PySem.W
open PySem
theorem cls_some {K : Frag} {C : Addr} (h : hasDictIn K C = true) : (clsIn K C).isSome = true := by
  obtain ⟨cd, hc, _⟩ := any_some h
  rw [hc]
  exact Option.isSome_some
theorem exm_refD {K : Frag} {C D : Addr} {b : Bool} (h1 : subIn K (.ref C) (.type "BaseException") = some true) (hd : hasDictIn K C = true) (ht : typeIn K (.ref C) = some (.type "type")) (hs : subIn K (.ref D) (.ref C) = some b) : exmOne K (.ref D) (.ref C) = some b := by
  have q := cls_some hd
  unfold exmOne kitCls
  simp [h1, q, ht, hs]
end PySem.W

/-! The D layer, 17: keyword calls by a name, lists unpacked, tuple.index. -/
namespace DL
open PySem PySem.Spec PyProof.Rows L2

/-- the name x of the module is called with n arguments and the keywords ks -/
structure CalK (γ : Nat → Addr) (P : Program) (w : World) (K : PySem.W.Frag) (mg : Str → Option Value) (base : Heap) (x : Str) (j n : Nat) (ks : List Str) (g : List Dv → List Dv → Sto → Re Dv) : Prop where
  ex : ∃ u : Value, mg x = some u ∧ PySem.W.keepIn K u = true ∧ ∀ (X : Cx) (W : WX), X.prog = P → X.w = w → X.K = K → X.mg = mg → X.base = base → Room j X.A → X.A.guards = some [] → Takes X W → CallK γ X W u n ks g
section
variable {γ : Nat → Addr} {P : Program} {w : World} {K : PySem.W.Frag} {mg : Str → Option Value} {base : Heap} {x : Str} {j n m : Nat} {ks : List Str} {perm : List Nat} {g : Fn}
theorem CalK.fn {f : Addr} {fd : FuncData} {ps : List Str} (F : FnG P w K mg base j f fd ps (spD ⟨K, γ⟩ m g)) (hm : mg x = some (.ref f)) (hk : PySem.W.keepIn K (.ref f) = true) (hb : KB K fd ps n ks perm) (hn : perm.length = m) (hp : ∀ i ∈ perm, i < n + ks.length) :
    CalK γ P w K mg base x j n ks (fun ds es S => g (pick perm (ds ++ es)) S) :=
  ⟨.ref f, hm, hk, by rintro X W rfl rfl rfl rfl rfl hr hg tk; exact callK_fn F hb hn hp hr hg tk⟩
/-- a class, with keywords alone: perm tells where they go behind the instance -/
theorem CalK.make {c : Nat} {f : Addr} {fd : FuncData} {ps : List Str} (M : Mk K (γ c) f) (F : FnG P w K mg base j f fd ps (spD ⟨K, γ⟩ (m + 1) g)) (hm : mg x = some (.ref (γ c))) (hb : KB K fd ps 1 ks (0 :: perm.map (· + 1))) (hn : perm.length = m) (hp : ∀ i ∈ perm, i < ks.length) :
    CalK γ P w K mg base x (j + 1) 0 ks (fun ds es S => makeD c g (pick perm (ds ++ es)) S) := by
  refine ⟨.ref (γ c), hm, M.kp, ?_⟩
  rintro X W rfl rfl rfl rfl rfl hr hg tk pins s σ H vs zs us ws Q Φ F0 θ S ds es I rv rz rd re hh hl hl2 p
  have hds : ds = [] := List.length_eq_zero_iff.mp hl
  subst hds
  cases rd
  cases rv
  have n1 : H s.heap.objs.size = none := I.hok.fresh (Nat.le_refl _)
  have n2 : H (s.heap.objs.size + 1) = none := I.hok.fresh (Nat.le_succ _)
  have ne : s.heap.objs.size ≠ s.heap.objs.size + 1 := by omega
  have I2 := Inv.made (C := γ c) I
  have h1 : HA ⟨X.K, γ⟩ Φ F0 θ S (upd H s.heap.objs.size (.own (s.heap.objs.size + 1))) := hh.same fun a o q => by rw [upd_ne (ne_of_none q n1)]; exact q
  obtain ⟨e2, h2⟩ := h1.newCell (p := s.heap.objs.size + 1) (o := .ins (γ c) s.heap.objs.size []) (ob := .ins c []) (by rw [upd_ne (Ne.symm ne)]; exact n2) ⟨rfl, .nil⟩
  have hcell : Rep ⟨X.K, γ⟩ F0 (θ ++ [s.heap.objs.size + 1]) (.ref (s.heap.objs.size + 1)) (.cell S.length) := .cell (by
    rw [← hh.len, List.getElem?_append_right (Nat.le_refl _), Nat.sub_self]; rfl)
  have p2 := PostG.ext e2 p
  simp only [List.nil_append] at p2
  unfold makeD at p2
  have shift : ∀ {α : Type} (a : α) (l : List α), pick (0 :: perm.map (· + 1)) (a :: l) = a :: pick perm l := fun a l => by
    unfold pick
    rw [List.filterMap_cons, List.getElem?_cons_zero, List.filterMap_map]
    rfl
  have rA : Reps ⟨X.K, γ⟩ F0 (θ ++ [s.heap.objs.size + 1]) (pick perm zs) (pick perm es) := pick_reps (re.ext e2) perm
  have vA : Vals (pick perm zs) (pick perm ws) := pick_vals rz perm
  have hlen : (pick perm es).length = m := by
    rw [← hn]
    have : ∀ q : List Nat, (∀ i ∈ q, i < es.length) → (pick q es).length = q.length := by
      intro q
      induction q with
      | nil => intro _; rfl
      | cons i q ih =>
        intro h
        have hi := h i List.mem_cons_self
        unfold pick at ih ⊢
        rw [List.filterMap_cons, List.getElem?_eq_getElem hi]
        simp only [List.length_cons]
        rw [ih fun j hj => h j (List.mem_cons_of_mem _ hj)]
    exact this perm fun i hi => by rw [hl2]; exact hp i hi
  have hsp : spD ⟨X.K, γ⟩ (m + 1) g (.ref (s.heap.objs.size + 1) :: pick perm zs) (upd (upd H s.heap.objs.size (.own (s.heap.objs.size + 1))) (s.heap.objs.size + 1) (.ins (γ c) s.heap.objs.size [])) (fun v H2 => v = .non ∧ Q (.ref (s.heap.objs.size + 1)) H2) (fun c d H' => W c d σ H') := by
    refine ⟨by rw [List.length_cons, rA.length, hlen], .cell S.length :: pick perm es, Φ, F0, θ ++ [s.heap.objs.size + 1], S ++ [.ins c []], .cons hcell rA, h2, ?_⟩
    revert p2
    cases g (.cell S.length :: pick perm es) (S ++ [.ins c []]) with
    | ok d S' =>
      intro p v F' θ' H' e' h' r'
      cases d with
      | non => exact ⟨rep_non r', p _ F' θ' H' e' h' (hcell.ext e')⟩
      | _ => exact p.elim
    | exc c d S' => exact fun p => p
    | bad => exact fun p => p
  have r2 : Vals (V.ref (s.heap.objs.size + 1) :: pick perm zs) (Value.ref (s.heap.objs.size + 1) :: pick perm ws) := .cons rfl vA
  have hb' := hb { s with heap := ((s.heap.push PySem.W.emptyDict).push (PySem.W.instObj (γ c) s.heap.objs.size)) } [Value.ref (s.heap.objs.size + 1)] ws I2.kIn rfl (by rw [← rz.length, re.length]; exact hl2)
  rw [List.singleton_append, shift] at hb'
  refine wpAny_call (make_map (f := f) I.kIn M.makes M.init (beq_iff_eq.mp M.fn) (codeAny_mono (F.run _ X.stack _ _ ⟨[Value.ref (s.heap.objs.size + 1)], ks.zip ws⟩ _ _ _ _ (hr.make (γ c) [] (ks.zip ws))
    (guards_make hg) (I2.env0.make (γ c) [] (ks.zip ws)) hb' r2 hsp) fun r s' hq' => ?_))
  match r, hq' with
  | .error e, hq' => exact tk e s' (XE.of_call I2 (fun cls d H' h => h) hq')
  | .ok .next, hq' => exact hq'.elim
  | .ok .brk, hq' => exact hq'.elim
  | .ok .cont, hq' => exact hq'.elim
  | .ok (.ret u), hq' =>
    obtain ⟨v, H', I3, rv, ev, q3⟩ := I2.after hq'
    subst ev
    exact ⟨rv, ⟨V.ref (s.heap.objs.size + 1), H', I3, rfl, q3⟩⟩
theorem CalK.told {g g' : List Dv → List Dv → Sto → Re Dv} (h : CalK γ P w K mg base x j n ks g) (hk : ∀ ds es S, ds.length = n → es.length = ks.length → Closed S → lowL S.length (ds ++ es) = true → Le S.length (g ds es S) (g' ds es S)) : CalK γ P w K mg base x j n ks g' := by
  obtain ⟨u, h1, h2, h3⟩ := h.ex
  refine ⟨u, h1, h2, fun X W a b c d e r1 r2 r3 pins s σ H vs zs us ws Q Φ F θ S ds es I rv rz rd re hh hl hl2 p => ?_⟩
  refine h3 X W a b c d e r1 r2 r3 pins s σ H vs zs us ws Q Φ F θ S ds es I rv rz rd re hh hl hl2 ?_
  exact hk ds es S hl hl2 hh.closed (by rw [← hh.len]; exact (rd.append re).low) _ Φ W σ F θ Q hh.len p
theorem pick_len {α : Type} : ∀ (q : List Nat) (l : List α), (∀ i ∈ q, i < l.length) → (pick q l).length = q.length
  | [], _, _ => rfl
  | i :: q, l, h => by
    have hi := h i List.mem_cons_self
    have ih := pick_len q l fun j hj => h j (List.mem_cons_of_mem _ hj)
    unfold pick at ih ⊢
    rw [List.filterMap_cons, List.getElem?_eq_getElem hi]
    simp only [List.length_cons]
    rw [ih]
theorem low_at {k : Nat} : ∀ {l : List Dv} {i : Nat} {d : Dv}, lowL k l = true → l[i]? = some d → lowD k d = true
  | [], _, _, _, h => by simp at h
  | a :: r, 0, d, h, e => by
    rw [lowL, Bool.and_eq_true] at h
    simp at e
    subst e
    exact h.1
  | a :: r, i + 1, d, h, e => by
    rw [lowL, Bool.and_eq_true] at h
    exact low_at h.2 (by simpa using e)
theorem low_pick {k : Nat} {l : List Dv} (h : lowL k l = true) : ∀ q : List Nat, lowL k (pick q l) = true
  | [] => by simp [pick, lowL]
  | i :: q => by
    have ih := low_pick h q
    unfold pick at ih ⊢
    rw [List.filterMap_cons]
    cases e : l[i]? with
    | none => exact ih
    | some d => rw [lowL, low_at h e, ih]; rfl
theorem CalK.told' {g g' : Fn} (h : CalK γ P w K mg base x j n ks (fun ds es S => g (pick perm (ds ++ es)) S)) (hn : perm.length = m) (hp : ∀ i ∈ perm, i < n + ks.length) (le : ∀ ds S, ds.length = m → Closed S → lowL S.length ds = true → Le S.length (g ds S) (g' ds S)) :
    CalK γ P w K mg base x j n ks (fun ds es S => g' (pick perm (ds ++ es)) S) :=
  h.told fun ds es S h1 h2 hc hl => le _ S (by rw [pick_len _ _ fun i hi => by rw [List.length_append, h1, h2]; exact hp i hi, hn]) hc (low_pick hl perm)
end
section
variable {γ : Nat → Addr} {X : Cx} {W : WX} {N : List Str} {sc : Scope} {k : Nat} {pos : Pos}
def eCallK (nk : Nat) (g : List Dv → List Dv → Sto → Re Dv) (as : Xs) : Ex := fun ρ S => (as ρ S).bind fun es S1 => if es.length = nk then g [] es S1 else .bad
/-- f(k = v, ..) -/
theorem de_callK0 {x : Str} {j : Nat} {ks : List Str} {g : List Dv → List Dv → Sto → Re Dv} {p : Pos} {kws : List Keyword} {fa : Xs} (c : Ctx X W N sc k) (h : CalK γ X.prog X.w X.K X.mg X.base x j 0 ks g) (hj : j ≤ k := by decide) (hg : sc.names.lookup x = some .globalImplicit := by rfl) (ha : DKs γ X W kws fa)
    (hall : (backToKw pos (keywordEach kws X.env)).all (·.1.isSome) = true := by rfl) (hks : (backToKw pos (keywordEach kws X.env)).filterMap (·.1) = ks := by rfl) (hdb : (x == ("__debug__" : Str)) = false := by decide)
    (hpl : ((backTo pos (starEach [] X.env)).any (·.1) || (backToKw pos (keywordEach kws X.env)).any (·.1.isNone)) = false := by rfl) :
    DE γ X W (.Call (.Name x p) [] kws pos) (eCallK ks.length g fa) := by
  obtain ⟨u, hm, hk, hc⟩ := h.ex
  refine ⟨fun pins s σ H Q I ⟨Φ, ρ, F, θ, S, ea, hh, p⟩ => ?_⟩
  refine wpAny_Call_Name_kw (ld_glob I (show X.env.scope.names.lookup x = some .globalImplicit by rw [c.hsc]; exact hg) hm ?_ hdb)
  refine PySem.W.callWith_KW0 (h₀ := X.base) I.ok.mod.kin hk hall ?_ hpl
  refine thn (ha.run pos pins s σ H (fun vs H2 => ∃ F2 θ2 S2 ds, Reps ⟨X.K, γ⟩ F2 θ2 vs ds ∧ HA ⟨X.K, γ⟩ Φ F2 θ2 S2 H2 ∧ ds.length = ks.length ∧ PostG ⟨X.K, γ⟩ Φ W σ F2 θ2 (Rep ⟨X.K, γ⟩) (g [] ds S2) Q) I
    ⟨Φ, ρ, F, θ, S, ea, hh, PostG.seq p fun ds S2 vs F2 θ2 H2 _ g2 h2 r p2 => let ⟨a, b⟩ := post_if p2; ⟨F2, θ2, S2, ds, r, h2, a, b⟩⟩) fun ws s2 ⟨vs, H2, I2, rvs, F2, θ2, S2, ds, rds, h2, hn, p2⟩ => ⟨I2.kIn, ?_⟩
  rw [hks]
  exact hc X W rfl rfl rfl rfl rfl (c.hr.mono hj) c.gd c.tk pins s2 σ H2 [] vs [] ws Q Φ F2 θ2 S2 [] ds I2 .nil rvs .nil rds h2 rfl hn p2

/-! ### a list unpacked -/
def gUl (n : Nat) (g : Gts) : Gt := fun d ρ S => match asR S d with
  | some l => if l.length = n then g l ρ S else none
  | none => none
theorem dg_unl (n : Nat) {es : List Expr} {k1 : Nat} {g : Gts} (c : CtxD X W N sc k) (h : DGs γ X es g) (hn : (assignEach es X.env).length = n := by rfl) (hst : (assignEach es X.env).findIdx? (·.1) = none := by rfl) : DG γ X (.Tuple es k1 pos) (gUl n g) :=
  PG.weak (pg_unl c.calm h hn hst) fun v σ H Q ⟨Φ, ρ, F, θ, S, d, ea, hh, r, p⟩ => by
    unfold gUl at p
    cases hd : asR S d with
    | none => rw [hd] at p; exact p.elim
    | some l =>
      rw [hd] at p
      dsimp only at p
      by_cases hl : l.length = n
      · rw [if_pos hl] at p
        obtain ⟨a, xs, rfl, hq, rs⟩ := asR_rep r hh hd
        exact ⟨a, xs, rfl, hq, by rw [rs.length]; exact hl, Φ, ρ, F, θ, S, l, ea, hh, rs, p⟩
      · rw [if_neg hl] at p
        exact p.elim

/-! ### tuple.index -/
def unSs : List Dv → Option (List Str)
  | [] => some []
  | .str x :: r => (unSs r).map (x :: ·)
  | _ => none
theorem unSs_map : ∀ ks : List Str, unSs (ks.map .str) = some ks
  | [] => rfl
  | x :: r => by simp [unSs, unSs_map r]
theorem unSs_of : ∀ {l : List Dv} {ks : List Str}, unSs l = some ks → l = ks.map .str
  | [], _, h => by cases h; rfl
  | d :: r, ks, h => by
    cases d <;> simp only [unSs] at h <;> first | cases h | skip
    obtain ⟨q, h1, rfl⟩ := Option.map_eq_some_iff.mp h
    rw [unSs_of h1]
    rfl
theorem reps_strs {M : Ev} {F : Hp} {θ : List Addr} : ∀ {xs : List V} {ks : List Str}, Reps M F θ xs (ks.map .str) → xs = ks.map V.str
  | [], [], _ => rfl
  | [], _ :: _, h => by cases h
  | _ :: _, [], h => by cases h
  | v :: r, k :: t, h => by
    cases h with
    | cons a b => rw [rep_str a, reps_strs b]; rfl
/-- o.m(..), o a tuple whose object is known -/
def tTM (r : V → List V → Hp → VK → Prop) (to : TE) (t : TA) : TE := fun σ H Q => to σ H fun x H1 => (∃ a o xs, x = .ref a ∧ H1 a = some (.frz o (.tup xs)) ∧ o.dict = none) ∧ t σ H1 fun vs H2 => r x vs H2 Q
theorem pe_tm {o e : Expr} {es : List Expr} {to : TE} {t : TA} {name : Str} {id : String} {apos cpos : Pos} {r : V → List V → Hp → VK → Prop} (slot : Slot "tuple" name id) (hty : typeOf (.builtin id) = pure (.type "method_descriptor")) (hm : MtR X id r) (ho : PE X o to) (ha : PA X (e :: es) t)
    (hbase : attributeBase o name X.env (eval o X.env) = eval o X.env := by rfl)
    (hfew : ((backTo cpos (starEach (e :: es) X.env)).all (fun x => !x.1) && (backToKw cpos (keywordEach [] X.env)).all (fun x => x.1.isSome)
      && decide ((e :: es).length + ([] : List Keyword).length + (if ([] : List Keyword).isEmpty then 0 else 1) < 30)) = true := by rfl)
    (hline : (apos.endLine == cpos.line) = true := by rfl) (hs : starEach (e :: es) X.env = (false, eval e X.env) :: starEach es X.env := by rfl) (hplain : (backTo cpos (starEach es X.env)).any (·.1) = false := by rfl) :
    PE X (.Call (.Attribute o name apos) (e :: es) [] cpos) (tTM r to t) := by
  refine ⟨fun pins s σ H Q I h => wpAny_Call_method_late hbase hfew hline rfl (thn (ho.run pins s σ H _ I h) fun v s1 ⟨x, H1, I1, r1, ⟨a, ob, xs, ex, ea, hd⟩, q1⟩ => ?_)⟩
  subst ex
  obtain rfl : v = Value.ref a := r1
  obtain ⟨g1, _, _, _, o', g2, g3, _⟩ := (show ObjOk X.prog X.w H1 s1.heap a (.frz ob (.tup xs)) from I1.hok a _ ea)
  refine ⟨"tuple", id, PySem.F.plainAttrs_tuple, slot, hty, ⟨o', g2, g3⟩, fun b hb => ?_, ?_⟩
  · cases hb
    exact ⟨ob, g1, hd⟩
  · have hA := ha.run cpos pins s1 σ H1 _ I1 q1
    rw [hs] at hA ⊢
    exact Calls.callWith_builtin (by show (false || (backTo cpos (starEach es X.env)).any (·.1)) = false; rw [hplain] <;> rfl) (Calls.evalArgs_plain (thn hA fun us s2 ⟨vs, H2, I2, r2, q2⟩ => hm pins s2 σ H2 (.ref a) vs _ us Q I2 rfl r2 q2))
def isKt : Dv → Sto → Bool
  | .ktup _, _ => true
  | _, _ => false
def mTIndex : Dv → List Dv → Sto → Re Dv := fun d ds S => match d, ds with
  | .ktup l, [.str z] => match unSs l with
    | some ys => match firstAt (.str z) (ys.map .str) with
      | some j => .ok (.int j) S
      | none => .bad
    | none => .bad
  | _, _ => .bad
theorem de_tindex {o e : Expr} {fo : Ex} {fa : Xs} {apos cpos : Pos} (ho : DE γ X W o fo) (ha : DAs γ X W [e] fa) (hbase : attributeBase o "index" X.env (eval o X.env) = eval o X.env := by rfl)
    (hline : (apos.endLine == cpos.line) = true := by rfl) (hs : starEach [e] X.env = (false, eval e X.env) :: starEach [] X.env := by rfl)
    (hfew : ((backTo cpos (starEach [e] X.env)).all (fun x => !x.1) && (backToKw cpos (keywordEach [] X.env)).all (fun x => x.1.isSome)
      && decide (([e] : List Expr).length + ([] : List Keyword).length + (if ([] : List Keyword).isEmpty then 0 else 1) < 30)) = true := by rfl) : DE γ X W (.Call (.Attribute o "index" apos) [e] [] cpos) (eM isKt mTIndex fo fa) :=
  PE.weak (pe_tm PySem.F.slot_tuple_index PySem.F.type_tuple_index mt_tup_index ho ha hbase hfew hline hs) fun σ H Q ⟨Φ, ρ, F, θ, S, ea, hh, p⟩ => ⟨Φ, ρ, F, θ, S, ea, hh, PostG.seq p fun d S' v F' θ' H' _ e h' r' p' => by
    obtain ⟨h1, p'⟩ := post_if p'
    cases r' with
    | @ktup a ob xs l g1 g2 g3 =>
      refine ⟨⟨a, ob, xs, rfl, h'.sub _ _ g1, g2⟩, Φ, ρ, F', θ', S', ea.ext e, h', PostG.seq p' fun ds S2 vs F2 θ2 H2 _ e2 h2 r2 p2 => ?_⟩
      match ds, r2, p2 with
      | [], _, p2 => exact p2.elim
      | _ :: _ :: _, _, p2 =>
        unfold mTIndex at p2
        split at p2
        · rename_i q1 q2; cases q2
        · exact p2.elim
      | [y], r2, p2 =>
        obtain ⟨u, rfl, ru⟩ := reps1 r2
        cases ru with
        | str z =>
          unfold mTIndex at p2
          dsimp only at p2
          cases hu : unSs l with
          | none => rw [hu] at p2; exact p2.elim
          | some ys =>
            rw [hu] at p2
            dsimp only at p2
            cases hf : firstAt (.str z) (ys.map .str) with
            | none => rw [hf] at p2; exact p2.elim
            | some j =>
              rw [hf] at p2
              have g3' := g3.ext e2
              rw [unSs_of hu] at g3'
              have hxs := reps_strs g3'
              obtain ⟨⟨w, w1, w2⟩, w3⟩ := firstAt_is hf
              rw [List.getElem?_map, Option.map_eq_some_iff] at w1
              obtain ⟨w', w1, rfl⟩ := w1
              have hw : w' = z := by simpa [PyData.eqv] using w2
              subst hw
              refine ⟨a, ys, w', j, rfl, rfl, .inl (.inr ⟨ob, ?_⟩), w1, fun m hm hz => ?_, p2.ok h2 (.int _)⟩
              · rw [← hxs]; exact h2.sub _ _ (e2.le _ _ g1)
              · have := w3 m (.str w') hm (by rw [List.getElem?_map, hz]; rfl)
                simp [PyData.eqv] at this
        | _ => exact p2.elim
    | _ => cases h1⟩
end
end DL

/-! The D layer, 18: lists times a number. -/
namespace DL
open PySem PySem.Spec PyProof.Rows L2
section
variable {γ : Nat → Addr} {X : Cx} {W : WX} {N : List Str} {sc : Scope} {k : Nat} {pos : Pos}
/-- a list so many times -/
def repL : Nat → List Dv → List Dv
  | 0, _ => []
  | n + 1, l => l ++ repL n l
def oMulL : Dv → Dv → Sto → Re Dv := fun d e S => match e with
  | .int j => match asL S d with
    | some l => if 0 ≤ j ∧ j < 1000000 ∧ l.length * j.toNat ≤ sizeLine then .ok (.lst (repL j.toNat l)) S else .bad
    | none => .bad
  | _ => .bad
theorem repL_reps {M : Ev} {F : Hp} {θ : List Addr} {vs : List V} {l : List Dv} (r : Reps M F θ vs l) : ∀ n, Reps M F θ (List.replicate n vs).flatten (repL n l)
  | 0 => .nil
  | n + 1 => by
    rw [List.replicate_succ, List.flatten_cons]
    exact r.append (repL_reps r n)
theorem od_mulL : OpD γ X W (binaryOp .Mult) oMulL := .of op_rep fun Φ F θ S d e x y σ H Q rd re hh p => by
  cases e with
  | int j =>
    unfold oMulL at p
    dsimp only at p
    cases hd : asL S d with
    | none => rw [hd] at p; exact p.elim
    | some l =>
      rw [hd] at p
      obtain ⟨h1, p⟩ := post_if p
      obtain ⟨a, xs, rfl, e1, r1⟩ := asL_rep rd hh hd
      refine ⟨a, j, xs, rfl, rep_int re, e1, by omega, by omega, by rw [r1.length]; exact h1.2.2, fun q hq => ?_⟩
      obtain ⟨e2, h2⟩ := hh.alloc (.lst (List.replicate j.toNat xs).flatten) hq
      exact p _ _ _ _ e2 h2 (.lst upd_same ((repL_reps r1 _).ext e2))
  | _ => exact p.elim
/-- a text so many times -/
def oMulS : Dv → Dv → Sto → Re Dv
  | .str x, .int j, S => if 0 ≤ j ∧ j < 1000000 ∧ x.length * j.toNat ≤ sizeLine then .ok (.str (Txt.mul x j)) S else .bad
  | _, _, _ => .bad
theorem mul_ok {x : Str} {j : Int} (h0 : 0 ≤ j) (h1 : j < 1000000) (h2 : x.length * j.toNat ≤ sizeLine) : MulOk x j := by
  refine ⟨by simp only [Bool.or_eq_false_iff, decide_eq_false_iff_not]; omega, fun h _ q => ?_, fun _ _ => ?_⟩
  · have hj : (j.toNat : Int) = j := Int.toNat_of_nonneg h0
    have e : (x.length : Int) ≤ (2 ^ 63 - 1) / j := by
      rw [Int.le_ediv_iff_mul_le (by omega)]
      have : ((x.length * j.toNat : Nat) : Int) ≤ (sizeLine : Nat) := Int.ofNat_le.mpr h2
      rw [Int.natCast_mul, hj] at this
      exact Int.le_trans this (by decide)
    omega
  · unfold Builtin.Str.tooLong; simp; exact h2
theorem op_mulS : OpR X (binaryOp .Mult) (fun x y H Q => ∃ i j, x = .str i ∧ y = .int j ∧ MulOk i j ∧ Q (.str (Txt.mul i j)) H) := by
  intro pins s σ H x y v u Q I rx ry h
  obtain ⟨i, j, rfl, rfl, hz, q⟩ := h
  obtain ⟨t, rfl⟩ := rx
  obtain ⟨t', rfl⟩ := ry
  exact SB.mul hz fun t' tk => ⟨.str (Txt.mul i j), H, I.tok _, ⟨_, rfl⟩, q⟩
theorem od_mulS : OpD γ X W (binaryOp .Mult) oMulS := .of op_mulS fun Φ F θ S d e x y σ H Q rd re hh p => by
  cases d with
  | str i =>
    cases e with
    | int j =>
      obtain ⟨h1, p⟩ := post_if p
      exact ⟨i, j, rep_str rd, rep_int re, mul_ok h1.1 h1.2.1 h1.2.2, p.ok hh (.str _)⟩
    | _ => exact p.elim
  | _ => exact p.elim
end
end DL

/-! The D layer, 19: three at once, tuples within tuples. -/
namespace DL
open PySem PySem.Spec PyProof.Rows L2
section
variable {γ : Nat → Addr} {X : Cx} {W : WX} {N : List Str} {sc : Scope} {k : Nat} {pos : Pos}
def sPar3 (i j m : Nat) (f : Xs) : Sm := fun ρ S => (f ρ S).toS ρ fun l S' => match l with
  | [d, e, a] => .nx (((ρ.set i (some d)).set j (some e)).set m (some a)) S'
  | _ => .bad
theorem reps3 {M : Ev} {F : Hp} {θ : List Addr} {vs : List V} {d e a : Dv} (r : Reps M F θ vs [d, e, a]) : ∃ v w u, vs = [v, w, u] ∧ Rep M F θ v d ∧ Rep M F θ w e ∧ Rep M F θ u a := by
  cases r with
  | cons r1 r2 =>
    obtain ⟨w, u, rfl, r3, r4⟩ := reps2 r2
    exact ⟨_, _, _, rfl, r1, r3, r4⟩
theorem ds_par3 (i j m : Nat) {x y z : Str} {a b e : Expr} {f : Xs} {px py pz pt : Pos} {kt k2 : Nat} {pt2 : Pos} (c : CtxD X W N sc k) (h : DAs γ X W [a, b, e] f) (hi : N[i]? = some x := by rfl) (hj : N[j]? = some y := by rfl) (hm : N[m]? = some z := by rfl)
    (hij : i ≠ j := by decide) (him : i ≠ m := by decide) (hjm : j ≠ m := by decide)
    (hx : sc.names.lookup x = some .local := by rfl) (hy : sc.names.lookup y = some .local := by rfl) (hz : sc.names.lookup z = some .local := by rfl)
    (hw : swappedStores [.Tuple [.Name x px, .Name y py, .Name z pz] kt pt] (.Tuple [a, b, e] k2 pt2) X.env = pure (some [x, y, z]))
    (hs : swapsWithSole [.Tuple [.Name x px, .Name y py, .Name z pz] kt pt] (.Tuple [a, b, e] k2 pt2) pos.line X.env = pure false := by rfl) :
    DS γ X W (.Assign [.Tuple [.Name x px, .Name y py, .Name z pz] kt pt] (.Tuple [a, b, e] k2 pt2) pos) (sPar3 i j m f) :=
  PS.weak (ps_par3 (i := i) (j := j) (l := m) c.calm (by rw [c.hN]; exact c.nd) (by rw [c.hN]; exact hi) (by rw [c.hN]; exact hj) (by rw [c.hN]; exact hm) hij him hjm (by rw [c.hsc]; exact hx) (by rw [c.hsc]; exact hy) (by rw [c.hsc]; exact hz) h hw hs) fun D σ H ⟨Φ, ρ, F, θ, S, ea, hh, p⟩ => ⟨Φ, ρ, F, θ, S, ea, hh, PostS.seq ea p fun l S' vs F' θ' H' _ g h' r p' => by
    match l, r, p' with
    | [d, d2, d3], r, p' =>
      obtain ⟨v, w, u, rfl, r1, r2, r3⟩ := reps3 r
      exact ⟨v, w, u, rfl, p' _ F' θ' H' .rfl ((((ea.ext g).set i r1).set j r2).set m r3) h'⟩
    | [], r, p' => exact p'.elim
    | [_], r, p' => exact p'.elim
    | [_, _], r, p' => exact p'.elim
    | _ :: _ :: _ :: _ :: _, r, p' => exact p'.elim⟩
theorem sw_par3 {x y z : Str} {a b e : Expr} {px py pz pt : Pos} {kt k2 : Nat} {pt2 : Pos} (c : CtxD X W N sc k) (hk : sc.kind = .function := by rfl) (hx : sc.names.lookup x = some .local := by rfl) (hy : sc.names.lookup y = some .local := by rfl) (hz : sc.names.lookup z = some .local := by rfl)
    (hl : (py.line == px.line) = true := by rfl) (hl3 : (pz.line == px.line) = true := by rfl) (hne : ([x, y, z].eraseDups.length != [x, y, z].length) = false := by decide +kernel) (hst : ([a, b, e].any fun | .Starred .. => true | _ => false) = false := by rfl)
    (hf : ([a, b, e].all (foldedForSure 8)) = false := by rfl) (hca : ([a, b, e].all (constantsAlone 8)) = false := by rfl) :
    swappedStores [.Tuple [.Name x px, .Name y py, .Name z pz] kt pt] (.Tuple [a, b, e] k2 pt2) X.env = pure (some [x, y, z]) := by
  have e1 : X.env.kindOf x = some .local := by unfold Env.kindOf; rw [c.hsc]; exact hx
  have e2 : X.env.kindOf y = some .local := by unfold Env.kindOf; rw [c.hsc]; exact hy
  have e5 : X.env.kindOf z = some .local := by unfold Env.kindOf; rw [c.hsc]; exact hz
  have e3 : X.env.blockKind = .function := by
    unfold Env.blockKind
    rw [c.hsc, hk]
    rfl
  have e4 : ([Expr.Name x px, Expr.Name y py, Expr.Name z pz].filterMap fun
      | .Name id pos => if X.env.kindOf id == some .local && pos.line == (([Expr.Name x px, Expr.Name y py, Expr.Name z pz].head?.map (·.pos.line)).getD 0) then some id else none
      | _ => none) = [x, y, z] := by
    have q : (([Expr.Name x px, Expr.Name y py, Expr.Name z pz].head?.map (·.pos.line)).getD 0) = px.line := rfl
    rw [q]
    have hl2 : py.line = px.line := by simpa using hl
    have hl4 : pz.line = px.line := by simpa using hl3
    simp [List.filterMap, e1, e2, e5, hl2, hl4]
  unfold swappedStores
  simp only [e3]
  rw [show ((!([Expr.Name x px, Expr.Name y py, Expr.Name z pz].length == 2 || [Expr.Name x px, Expr.Name y py, Expr.Name z pz].length == 3) || [a, b, e].length != [Expr.Name x px, Expr.Name y py, Expr.Name z pz].length || ScopeKind.function != ScopeKind.function)) = false from rfl]
  rw [if_neg Bool.false_ne_true]
  refine (if_neg (fun h => Bool.noConfusion (h.symm.trans hst))).trans ?_
  refine (if_neg (fun h => ?_)).trans ?_
  · have h2 : (([x, y, z].length != [Expr.Name x px, Expr.Name y py, Expr.Name z pz].length) || ([x, y, z].eraseDups.length != [x, y, z].length)) = true := by
      rw [← e4]; exact h
    rw [hne] at h2
    cases h2
  refine (if_neg (fun h => Bool.noConfusion (h.symm.trans hf))).trans ?_
  refine (if_neg (fun h => Bool.noConfusion (h.symm.trans hca))).trans ?_
  exact congrArg (fun l => (pure (some l) : Sem (Option (List Str)))) e4
def isNm : Expr → Option Unit
  | .Name _ _ => some ()
  | _ => none
theorem fm_le {α β δ : Type} {f : α → Option β} {g : α → Option δ} (h : ∀ x, (f x).isSome = true → (g x).isSome = true) : ∀ l : List α, (l.filterMap f).length ≤ (l.filterMap g).length
  | [] => Nat.le_refl _
  | x :: r => by
    have q := h x
    have i := fm_le h r
    rw [List.filterMap_cons, List.filterMap_cons]
    cases e : f x <;> cases e2 : g x <;> simp only [e, e2, List.length_cons] at q ⊢ <;> first | omega | exact nomatch (q rfl)
/-- a tuple's targets that are not names alone -/
theorem sw_nest {ts vs : List Expr} {k2 kt : Nat} {pt pt2 : Pos} {env : Env} (h : (decide ((ts.filterMap isNm).length < ts.length)) = true := by rfl) : swappedStores [.Tuple ts kt pt] (.Tuple vs k2 pt2) env = pure none := by
  have h := of_decide_eq_true h
  unfold swappedStores
  dsimp only
  split
  · rfl
  · split
    · rfl
    · refine (if_pos ?_).trans rfl
      rw [Bool.or_eq_true]
      refine .inl ?_
      rw [bne_iff_ne]
      refine Nat.ne_of_lt (Nat.lt_of_le_of_lt (fm_le (fun x hx => ?_) ts) h)
      cases x <;> first | rfl | cases hx
/-- tuples put together -/
def oAddT : Dv → Dv → Sto → Re Dv
  | .tup l, .tup m, S => mkT (l ++ m) S
  | _, _, _ => .bad
theorem reps_nil {M : Ev} {F : Hp} {θ : List Addr} {l : List Dv} (r : Reps M F θ [] l) : l = [] := by cases r; rfl
theorem od_addT : OpD γ X W (binaryOp .Add) oAddT := .of op_catA fun Φ F θ S d e x y σ H Q rd re hh p => by
  cases d with
  | tup l =>
    cases e with
    | tup m =>
      have p : PostG ⟨X.K, γ⟩ Φ W σ F θ (Rep ⟨X.K, γ⟩) (mkT (l ++ m) S) Q := p
      obtain ⟨a, xs, rfl, e1, r1⟩ := asT_rep rd hh rfl
      obtain ⟨b, ys, rfl, e2, r2⟩ := asT_rep re hh rfl
      obtain ⟨hz, q⟩ := newT hh (r1.append r2) p
      obtain ⟨_, p1⟩ := post_if p
      refine ⟨a, b, xs, ys, rfl, rfl, e1, e2, by rw [← List.length_append]; exact hz, fun h => ?_, fun _ h => ?_, fun _ _ => q⟩
      · subst h
        cases reps_nil r1
        exact p1.ok hh re
      · subst h
        cases reps_nil r2
        rw [List.append_nil] at p1
        exact p1.ok hh rd
    | _ => exact p.elim
  | _ => exact p.elim
end
end DL

/-! The D layer, 20: dicts in cells. -/
namespace DL
open PySem PySem.Spec PyProof.Rows L2
section
variable {κ β : Type} [DecidableEq κ]
def valG (l : List (κ × β)) (k : κ) : Option β := (l.find? fun kv => decide (kv.1 = k)).map (·.2)
def putG (l : List (κ × β)) (k : κ) (v : β) : List (κ × β) := if (l.any fun kv => decide (kv.1 = k)) = true then l.map (fun kv => if kv.1 = k then (kv.1, v) else kv) else l ++ [(k, v)]
theorem valG_cons {p : κ × β} {l : List (κ × β)} {k : κ} : valG (p :: l) k = if p.1 = k then some p.2 else valG l k := by
  unfold valG
  rw [List.find?_cons]
  by_cases e : p.1 = k <;> simp [e]
theorem one_eq {k j : κ} : ([k] = [j]) = (k = j) := by simp
theorem valG_one (k : κ) : ∀ l : List (κ × β), valG (l.map one) [k] = valG l k
  | [] => rfl
  | p :: r => by
    rw [List.map_cons, valG_cons, valG_cons, valG_one k r]
    unfold one
    by_cases e : p.1 = k <;> simp [e]
theorem putG_one (k : κ) (v : β) (l : List (κ × β)) : (putG l k v).map one = putG (l.map one) [k] v := by
  unfold putG
  have e : ((l.map one).any fun kv => decide (kv.1 = [k])) = (l.any fun kv => decide (kv.1 = k)) := by
    rw [List.any_map]
    congr 1
    funext x
    simp [one]
  rw [e]
  split
  · rw [List.map_map, List.map_map]
    congr 1
    funext x
    by_cases h : x.1 = k <;> simp [one, h]
  · rw [List.map_append]; rfl
end
theorem valV_is {κ : Type} [DecidableEq κ] (kvs : List (κ × V)) (k : κ) : valV kvs k = valG kvs k := rfl
theorem putK_is {κ : Type} [DecidableEq κ] (kvs : List (κ × V)) (k : κ) (v : V) : putK kvs k v = putG kvs k v := rfl
section
variable {M : Ev} {F : Hp} {θ : List Addr}
theorem RepK.val (k : List L2.Key) : ∀ {kvs : List (List L2.Key × V)} {l : List (List L2.Key × Dv)}, RepK M F θ kvs l → (∀ d, valG l k = some d → ∃ v, valG kvs k = some v ∧ Rep M F θ v d) ∧ (valG l k = none → valG kvs k = none)
  | _, _, .nil => ⟨fun _ h => (nomatch h), fun _ => rfl⟩
  | _, _, .cons (f := f) r t => by
    have ih := RepK.val k t
    rw [valG_cons, valG_cons]
    by_cases e : f = k
    · simp only [e, if_true]; exact ⟨fun d h => by cases h; exact ⟨_, rfl, r⟩, fun h => by cases h⟩
    · simp only [e, if_false]; exact ih
theorem RepK.any (k : List L2.Key) : ∀ {kvs : List (List L2.Key × V)} {l : List (List L2.Key × Dv)}, RepK M F θ kvs l → (kvs.any fun kv => decide (kv.1 = k)) = (l.any fun kv => decide (kv.1 = k))
  | _, _, .nil => rfl
  | _, _, .cons _ t => by rw [List.any_cons, List.any_cons, RepK.any k t]
theorem RepK.repl {k : List L2.Key} {v : V} {d : Dv} (h : Rep M F θ v d) : ∀ {kvs : List (List L2.Key × V)} {l : List (List L2.Key × Dv)}, RepK M F θ kvs l →
    RepK M F θ (kvs.map fun kv => if kv.1 = k then (kv.1, v) else kv) (l.map fun kv => if kv.1 = k then (kv.1, d) else kv)
  | _, _, .nil => .nil
  | _, _, .cons (f := f) r t => by
    rw [List.map_cons, List.map_cons]
    by_cases e : f = k
    · simp only [e, if_true]; exact .cons h (RepK.repl h t)
    · simp only [e, if_false]; exact .cons r (RepK.repl h t)
theorem RepK.snoc {k : List L2.Key} {v : V} {d : Dv} (h : Rep M F θ v d) : ∀ {kvs : List (List L2.Key × V)} {l : List (List L2.Key × Dv)}, RepK M F θ kvs l → RepK M F θ (kvs ++ [(k, v)]) (l ++ [(k, d)])
  | _, _, .nil => .cons h .nil
  | _, _, .cons r t => .cons r (RepK.snoc h t)
theorem RepK.put {k : List L2.Key} {v : V} {d : Dv} (h : Rep M F θ v d) {kvs : List (List L2.Key × V)} {l : List (List L2.Key × Dv)} (r : RepK M F θ kvs l) : RepK M F θ (putG kvs k v) (putG l k d) := by
  unfold putG
  rw [r.any k]
  split
  · exact r.repl h
  · exact r.snoc h
theorem RepK.length : ∀ {kvs : List (List L2.Key × V)} {l : List (List L2.Key × Dv)}, RepK M F θ kvs l → kvs.length = l.length
  | _, _, .nil => rfl
  | _, _, .cons _ t => congrArg (· + 1) (RepK.length t)
def keyK : Dv → Option L2.Key
  | .int i => some (.inl i)
  | .str x => some (.inr x)
  | _ => none
def keyKs : List Dv → Option (List L2.Key)
  | [] => some []
  | d :: r => (keyK d).bind fun k => (keyKs r).map fun ks => k :: ks
def keyT : Dv → Option (List L2.Key)
  | .tup l => keyKs l
  | _ => none
theorem keyK_rep {v : V} {d : Dv} {k : L2.Key} (r : Rep M F θ v d) (e : keyK d = some k) : v = kV k := by
  cases r <;> cases e <;> rfl
theorem keyKs_rep : ∀ {vs : List V} {ds : List Dv} {ks : List L2.Key}, Reps M F θ vs ds → keyKs ds = some ks → vs = ks.map kV
  | _, _, _, .nil, e => by cases e; rfl
  | _, _, _, .cons r t, e => by
    rw [keyKs, Option.bind_eq_some_iff] at e
    obtain ⟨k, h1, e⟩ := e
    rw [Option.map_eq_some_iff] at e
    obtain ⟨ks, h2, rfl⟩ := e
    rw [keyK_rep r h1, keyKs_rep t h2, List.map_cons]
theorem keyT_rep {v : V} {d : Dv} {ks : List L2.Key} (r : Rep M F θ v d) (e : keyT d = some ks) : ∃ b, v = .ref b ∧ F b = some (.tup (ks.map kV)) := by
  cases r <;> try cases e
  rename_i a xs ds h1 h2
  exact ⟨a, rfl, by rw [h1, keyKs_rep h2 e]⟩
end
/-- what the dict e holds at d; none where it is not known -/
def getM (e d : Dv) (S : Sto) : Option (Option Dv) := match e with
  | .cell j => match S[j]? with
    | some (.dic l) => (keyT d).map fun k => valG l k
    | some (.dik l) => (keyK d).map fun k => valG l k
    | _ => none
  | _ => none
theorem getM_rep {M : Ev} {Φ F : Hp} {θ : List Addr} {S : Sto} {H : Hp} {x y : V} {d e : Dv} {o : Option Dv} (rd : Rep M F θ x d) (re : Rep M F θ y e) (hh : HA M Φ F θ S H) (h : getM e d S = some o) :
    ∃ a ov, y = .ref a ∧ DGet H a x ov ∧ ov.isSome = o.isSome ∧ ∀ dd, o = some dd → ∃ v, ov = some v ∧ Rep M F θ v dd := by
  cases re <;> try cases h
  rename_i j a ha
  unfold getM at h
  dsimp only at h
  have fin : ∀ {ov : Option V}, (∀ d, o = some d → ∃ v, ov = some v ∧ Rep M F θ v d) → (o = none → ov = none) → ov.isSome = o.isSome := fun {ov} h1 h2 => by
    cases o with
    | none => rw [h2 rfl]; rfl
    | some dd => obtain ⟨v, hv, _⟩ := h1 dd rfl; rw [hv]; rfl
  split at h
  · rename_i l hs
    rw [Option.map_eq_some_iff] at h
    obtain ⟨k, hk, rfl⟩ := h
    obtain ⟨_, ob, h5, h6⟩ := hh.live j a _ ha hs (by intro z; cases z)
    cases ob <;> first | exact h6.elim | skip
    rename_i kvs
    obtain ⟨b, rfl, hb⟩ := keyT_rep rd hk
    have h6 : RepK M F θ kvs l := h6
    obtain ⟨g1, g2⟩ := h6.val k
    exact ⟨a, _, rfl, .t h5 (hh.sub _ _ hb), fin g1 g2, g1⟩
  · rename_i l hs
    rw [Option.map_eq_some_iff] at h
    obtain ⟨k, hk, rfl⟩ := h
    obtain ⟨_, ob, h5, h6⟩ := hh.live j a _ ha hs (by intro z; cases z)
    cases ob <;> first | exact h6.elim | skip
    rename_i kvs
    have h6 : RepK M F θ (kvs.map one) (l.map one) := h6
    obtain ⟨g1, g2⟩ := h6.val [k]
    rw [valG_one, valG_one] at g1 g2
    rw [keyK_rep rd hk]
    exact ⟨a, _, rfl, .k h5, fin g1 g2, g1⟩
  · cases h
def inM (neg : Bool) (d e : Dv) (S : Sto) : Re Dv := match getM e d S with
  | some o => .ok (.bl (xor neg o.isSome)) S
  | none => .bad
def oInM : Dv → Dv → Sto → Re Dv := inM false
def oNotInM : Dv → Dv → Sto → Re Dv := inM true
def oGetM (e d : Dv) (S : Sto) : Re Dv := match getM e d S with
  | some (some x) => .ok x S
  | _ => .bad
/-- the store behind e[d] = v -/
def putM (e d v : Dv) (S : Sto) : Option Sto := match e with
  | .cell j => match S[j]? with
    | some (.dic l) => match keyT d with
      | some k => if l.length < sizeLine then some (S.set j (.dic (putG l k v))) else none
      | none => none
    | some (.dik l) => match keyK d with
      | some k => if l.length < sizeLine then some (S.set j (.dik (putG l k v))) else none
      | none => none
    | _ => none
  | _ => none
def sPutM (fe fi fv : Ex) : Sm := fun ρ S => (fv ρ S).toS ρ fun v S1 => (fe ρ S1).toS ρ fun e S2 => (fi ρ S2).toS ρ fun d S3 => match putM e d v S3 with
  | some S4 => .nx ρ S4
  | none => .bad
theorem putM_rep {M : Ev} {Φ F : Hp} {θ : List Addr} {S S' : Sto} {H : Hp} {x y z : V} {d e v : Dv} (rd : Rep M F θ x d) (re : Rep M F θ y e) (rv : Rep M F θ z v) (hh : HA M Φ F θ S H) (h : putM e d v S = some S') :
    ∃ a H', y = .ref a ∧ DPut H a x z H' ∧ HA M Φ F θ S' H' := by
  cases re <;> try cases h
  rename_i j a ha
  unfold putM at h
  dsimp only at h
  split at h
  · rename_i l hs
    split at h
    · rename_i k hk
      split at h
      · rename_i hl
        cases h
        obtain ⟨_, ob, h5, h6⟩ := hh.live j a _ ha hs (by intro z; cases z)
        cases ob <;> first | exact h6.elim | skip
        rename_i kvs
        obtain ⟨b, rfl, hb⟩ := keyT_rep rd hk
        have h6 : RepK M F θ kvs l := h6
        have h7 := hh.setCell (o' := .dT (putK kvs k z)) (ob' := .dic (putG l k v)) ha hs (by intro z; cases z) (show RepK M F θ _ _ from h6.put rv)
        exact ⟨a, _, rfl, .t h5 (hh.sub _ _ hb) (by rw [h6.length]; exact hl), h7⟩
      · cases h
    · cases h
  · rename_i l hs
    split at h
    · rename_i k hk
      split at h
      · rename_i hl
        cases h
        obtain ⟨_, ob, h5, h6⟩ := hh.live j a _ ha hs (by intro z; cases z)
        cases ob <;> first | exact h6.elim | skip
        rename_i kvs
        have h6 : RepK M F θ (kvs.map one) (l.map one) := h6
        have hlen : kvs.length = l.length := by simpa using h6.length
        rw [keyK_rep rd hk]
        have h7 := hh.setCell (o' := .dK (putK kvs k z)) (ob' := .dik (putG l k v)) ha hs (by intro z; cases z) (show RepK M F θ ((putG kvs k z).map one) ((putG l k v).map one) by rw [putG_one, putG_one]; exact h6.put rv)
        exact ⟨a, _, rfl, .k h5 (by rw [hlen]; exact hl), h7⟩
      · cases h
    · cases h
  · cases h
section
variable {γ : Nat → Addr} {X : Cx} {W : WX} {N : List Str} {sc : Scope} {k : Nat} {pos : Pos}
theorem units1 (c : Ctx X W N sc k) : X.A.units + 1 < cLine := by have := units65 c; omega
theorem od_inM (c : Ctx X W N sc k) : OpD γ X W (compareOp .In) oInM := by
  intro pins s σ H x y v u Q Φ F θ S d e I rx ry rd re hh p
  unfold oInM inM at p
  cases h : getM e d S with
  | none => rw [h] at p; exact p.elim
  | some o =>
    rw [h] at p
    obtain ⟨a, ov, rfl, g, hs, _⟩ := getM_rep rd re hh h
    cases ry
    refine d_in (units1 c) I g rx fun s' I' => ⟨.bl _, H, I', rfl, ?_⟩
    rw [hs]
    simpa using p.ok hh (.bl _)
theorem od_notInM (c : Ctx X W N sc k) : OpD γ X W (compareOp .NotIn) oNotInM := by
  intro pins s σ H x y v u Q Φ F θ S d e I rx ry rd re hh p
  unfold oNotInM inM at p
  cases h : getM e d S with
  | none => rw [h] at p; exact p.elim
  | some o =>
    rw [h] at p
    obtain ⟨a, ov, rfl, g, hs, _⟩ := getM_rep rd re hh h
    cases ry
    refine d_notIn (units1 c) I g rx fun s' I' => ⟨.bl _, H, I', rfl, ?_⟩
    rw [hs]
    simpa using p.ok hh (.bl _)
theorem de_dget {a b : Expr} {fa fb : Ex} (c : Ctx X W N sc k) (ha : DE γ X W a fa) (hb : DE γ X W b fb) (hs : NoSl b := by intro _ _; rfl) : DE γ X W (.Subscript a b pos) (e2 oGetM fa fb) :=
  PE.weak (pe_dget (units1 c) ha hb hs) fun σ H Q ⟨Φ, ρ, F, θ, S, ea, hh, p⟩ => ⟨Φ, ρ, F, θ, S, ea, hh, PostG.seq p fun d S' x F' θ' H' _ e h' r p' =>
    ⟨Φ, ρ, F', θ', S', ea.ext e, h', PostG.seq p' fun d2 S2 y F2 θ2 H2 _ e2 h2 r2 p2 => by
      unfold oGetM at p2
      split at p2
      · rename_i z hz
        obtain ⟨a, ov, h3, g, _, hv⟩ := getM_rep r2 (r.ext e2) h2 hz
        obtain ⟨v, rfl, rv⟩ := hv z rfl
        exact ⟨a, v, h3, g, p2.ok h2 rv⟩
      · exact p2.elim⟩⟩
theorem ds_putM {o i v : Expr} {fo fi fv : Ex} {pos' : Pos} (c : CtxD X W N sc k) (ho : DE γ X W o fo) (hi : DE γ X W i fi) (hv : DE γ X W v fv) (hs : swapsWith v (some (.Subscript o i pos')) pos.line X.env = pure false := by rfl) :
    DS γ X W (.Assign [.Subscript o i pos'] v pos) (sPutM fo fi fv) :=
  PS.weak (ps_dput (units1 c.toCtx) ho hi hv hs) fun D σ H ⟨Φ, ρ, F, θ, S, ea, hh, p⟩ => ⟨Φ, ρ, F, θ, S, ea, hh, PostS.seq ea p fun d S1 z F1 θ1 H1 _ e1 h1 rz p1 =>
    ⟨Φ, ρ, F1, θ1, S1, ea.ext e1, h1, PostS.seq (ea.ext e1) p1 fun e S2 y F2 θ2 H2 _ g2 h2 ry p2 =>
      ⟨Φ, ρ, F2, θ2, S2, (ea.ext e1).ext g2, h2, PostS.seq ((ea.ext e1).ext g2) p2 fun j S3 x F3 θ3 H3 _ g3 h3 rx p3 => by
        cases hp : putM e j d S3 with
        | none => rw [hp] at p3; exact p3.elim
        | some S4 =>
          rw [hp] at p3
          obtain ⟨a, H', rfl, g, h4⟩ := putM_rep rx (ry.ext g3) ((rz.ext g2).ext g3) h3 hp
          exact ⟨a, H', rfl, g, p3 σ F3 θ3 H' .rfl (((ea.ext e1).ext g2).ext g3) h4⟩⟩⟩⟩

/-! ### displays -/
def eDic0 : Ex := fun _ S => .ok (.cell S.length) (S ++ [.dic []])
def eDik0 : Ex := fun _ S => .ok (.cell S.length) (S ++ [.dik []])
theorem cell_new {M : Ev} {Φ F : Hp} {θ : List Addr} {S : Sto} {H : Hp} {p : Addr} {ob : Ob} (h' : HA M Φ F (θ ++ [p]) (S ++ [ob]) H) (hh : θ.length = S.length) : Rep M F (θ ++ [p]) (.ref p) (.cell S.length) := .cell (by
  rw [← hh, List.getElem?_append_right (Nat.le_refl _), Nat.sub_self]; rfl)
theorem de_dic0 : DE γ X W (.Dict [] [] pos) eDic0 := PE.weak pe_dnewT fun σ H Q ⟨Φ, ρ, F, θ, S, ea, hh, p⟩ q hq => by
  obtain ⟨e, h'⟩ := hh.newCell (o := .dT []) (ob := .dic []) hq RepK.nil
  exact p _ _ _ _ e h' (cell_new h' hh.len)
theorem de_dik0 : DE γ X W (.Dict [] [] pos) eDik0 := PE.weak pe_dnewK fun σ H Q ⟨Φ, ρ, F, θ, S, ea, hh, p⟩ q hq => by
  obtain ⟨e, h'⟩ := hh.newCell (o := .dK []) (ob := .dik []) hq RepK.nil
  exact p _ _ _ _ e h' (cell_new h' hh.len)
def dikK (j : Nat) (x y : Dv) (S : Sto) : Re Dv := match S[j]?, keyK x with
  | some (.dik []), some k => .ok (.cell j) (S.set j (.dik [(k, y)]))
  | _, _ => .bad
def eDik1 (fk fv : Ex) : Ex := fun ρ S => (fk ρ (S ++ [.dik []])).bind fun x S1 => (fv ρ S1).bind fun y S2 => dikK S.length x y S2
theorem de_dik1 {a b : Expr} {fa fb : Ex} (ha : DE γ X W a fa) (hb : DE γ X W b fb) : DE γ X W (.Dict [some a] [b] pos) (eDik1 fa fb) :=
  PE.weak (pe_disp (pps_cons ha hb pps_nil) rfl rfl (by simp) (by simp)) fun σ H Q ⟨Φ, ρ, F, θ, S, ea, hh, p⟩ q hq => by
    obtain ⟨e, h0⟩ := hh.newCell (o := .dK []) (ob := .dik []) hq RepK.nil
    have c0 := cell_new h0 hh.len
    refine ⟨Φ, ρ, F, θ ++ [q], S ++ [.dik []], ea.ext e, h0, PostG.seq (p.ext e) fun x S1 v F1 θ1 H1 _ g1 h1 r1 p1 => ⟨Φ, ρ, F1, θ1, S1, (ea.ext e).ext g1, h1, PostG.seq p1 fun y S2 w F2 θ2 H2 _ g2 h2 r2 p2 => ?_⟩⟩
    unfold dikK at p2
    split at p2
    · rename_i k hs hk
      have c2 := (c0.ext g1).ext g2
      cases c2 with
      | cell ht =>
        obtain ⟨_, ob, h5, h6⟩ := h2.live _ q _ ht hs (by intro z; cases z)
        cases ob <;> first | exact h6.elim | skip
        rename_i kvs
        have h6 : RepK ⟨X.K, γ⟩ F2 θ2 (kvs.map one) [] := h6
        have : kvs = [] := by
          cases kvs with
          | nil => rfl
          | cons a r => cases h6
        subst this
        refine ⟨h5, [(k, w)], ?_, by simp, ?_⟩
        · rw [keyK_rep (r1.ext g2) hk]; rfl
        · have h7 := h2.setCell (o' := .dK [(k, w)]) (ob' := .dik [(k, y)]) ht hs (by intro z; cases z) (RepK.cons r2 .nil)
          exact p2 _ _ _ _ .rfl h7 (.cell ht)
    · exact p2.elim
/-- {k: v}, k a tuple: the new dict stands empty while the pair is made -/
theorem pe_dispT {a b : Expr} {ta tb : TE} (c : Ctx X W N sc k) (ha : PE X a ta) (hb : PE X b tb) : PE X (.Dict [some a] [b] pos) (fun σ H Q => ∀ p, H p = none → ta σ (upd H p (.dT [])) fun x H1 => tb σ H1 fun y H2 =>
    H2 p = some (.dT []) ∧ ∃ q ks, x = .ref q ∧ H2 q = some (.tup (ks.map kV)) ∧ Q (.ref p) (upd H2 p (.dT [(ks, y)]))) := by
  refine ⟨fun pins s σ H Q I q => ?_⟩
  have hn := I.hok.fresh (Nat.le_refl s.heap.objs.size)
  have I1 := I.laid (a := s.heap.objs.size) (o := .dT []) (h' := s.heap.push { cls := .type "dict", data := .dict #[] }) (t' := s.toks) (fun _ _ q => Heap.get?_push_of_some _ q) (Nat.le_refl _) (dt_empty s.heap I.big)
  rw [arm_eval_Dict, zip_pairTrees [some a] [b] X.env pos rfl rfl, dictDisplay_pairs _ (by simp [pairTrees]) (by simp [pairTrees])]
  refine wpAny_bind (wpAny_standAt (wpAny_bind ?_))
  unfold subDict
  refine wpAny_bind (wpAny_alloc ?_)
  refine wpAny_bind (wpAny_holding ?_)
  rw [if_pos (show (pairTrees [some a] [b] X.env pos).length ≤ 15 by simp [pairTrees])]
  refine wpAny_bind (pairTrees_cons_walk (thn (ha.run pins _ σ _ _ I1 (q _ hn)) fun u s1 ⟨x, H1, I1, rx, q1⟩ => thn (hb.run pins s1 σ H1 _ I1 q1) fun w s2 ⟨y, H2, I2, ry, e, b, ks, hx, hb, q2⟩ => pairTrees_nil_walk ?_))
  subst hx
  cases (show u = Value.ref b from rx)
  refine wpAny_holding ?_
  obtain ⟨z, hd, xs, rel, dd⟩ := dt_of I2.hok e
  cases rel
  rw [List.forIn_cons]
  refine wpAny_bind (wpAny_bind (wpAny_bind (wpAny_dictSet_heap (hsz := Nat.zero_le _) (show (tupleKind (mixKind X.prog X.w)).room X.A from c.hr.units0) (key_of I2.hok hb) dd fun h' dd' hs => wpAny_pure ?_)))
  dsimp only
  rw [List.forIn_nil]
  refine wpAny_pure (wpAny_pure (wpAny_pure (wpAny_pure ⟨.ref s.heap.objs.size, _, ?_, rfl, q2⟩)))
  obtain ⟨q, es, ep, hq, h2, h3, h4, _, h5⟩ := dd'
  refine d_write I2 (by rw [e]; exact True.intro) hs ⟨q, hq⟩ ⟨(by rw [sizeLine_eq]; simp), hd, _, (KT.put (H := H2) (kvs := []) (xs := []) .nil ks hb ry).keeps fun c ys ec => ?_, q, es, ep, hq, h2, h3, h4, h5⟩
  rw [upd_ne (ne_of ec e (fun z => nomatch z))]
  exact ec
def dicK (j : Nat) (x y : Dv) (S : Sto) : Re Dv := match S[j]?, keyT x with
  | some (.dic []), some k => .ok (.cell j) (S.set j (.dic [(k, y)]))
  | _, _ => .bad
def eDic1 (fk fv : Ex) : Ex := fun ρ S => (fk ρ (S ++ [.dic []])).bind fun x S1 => (fv ρ S1).bind fun y S2 => dicK S.length x y S2
theorem de_dic1 {a b : Expr} {fa fb : Ex} (c : Ctx X W N sc k) (ha : DE γ X W a fa) (hb : DE γ X W b fb) : DE γ X W (.Dict [some a] [b] pos) (eDic1 fa fb) :=
  PE.weak (pe_dispT c ha hb) fun σ H Q ⟨Φ, ρ, F, θ, S, ea, hh, p⟩ q hq => by
    obtain ⟨e, h0⟩ := hh.newCell (o := .dT []) (ob := .dic []) hq RepK.nil
    have c0 := cell_new h0 hh.len
    refine ⟨Φ, ρ, F, θ ++ [q], S ++ [.dic []], ea.ext e, h0, PostG.seq (p.ext e) fun x S1 v F1 θ1 H1 _ g1 h1 r1 p1 => ⟨Φ, ρ, F1, θ1, S1, (ea.ext e).ext g1, h1, PostG.seq p1 fun y S2 w F2 θ2 H2 _ g2 h2 r2 p2 => ?_⟩⟩
    unfold dicK at p2
    split at p2
    · rename_i k hs hk
      have c2 := (c0.ext g1).ext g2
      cases c2 with
      | cell ht =>
        obtain ⟨_, ob, h5, h6⟩ := h2.live _ q _ ht hs (by intro z; cases z)
        cases ob <;> first | exact h6.elim | skip
        rename_i kvs
        have h6 : RepK ⟨X.K, γ⟩ F2 θ2 kvs [] := h6
        cases h6
        obtain ⟨b, hb1, hb2⟩ := keyT_rep (r1.ext g2) hk
        refine ⟨h5, b, k, hb1, h2.sub _ _ hb2, ?_⟩
        have h7 := h2.setCell (o' := .dT [(k, w)]) (ob' := .dic [(k, y)]) ht hs (by intro z; cases z) (RepK.cons r2 .nil)
        exact p2 _ _ _ _ .rfl h7 (.cell ht)
    · exact p2.elim
end
end DL

/-! The D layer, 21: objects that are called; a star in a display. -/
namespace PySem.W
open PySem PySem.Calls PyProof.Rows
section
variable {M : Model} {A : Around} {E : Value → Shared → Prop} {s : Shared} {K : Frag} {env : Env} {pos : Pos} {f : Value} {first : List Value} {Q : Value → Shared → Prop}
theorem callWith_cal {P : Heap → Prop} {args : List (Bool × Sem Value)} {keywords : List (Option Str × Sem Value)} (hplain : (args.any (·.1) || keywords.any (·.1.isNone)) = false)
    (hk : ∀ h, P h → Looks M h (keeperOf f) Keeper.caller)
    (h : wpAny M A (evalArgs f true args keywords) (fun a s₁ => P s₁.heap ∧ wpAny M A (call f (first ++ a.pos) a.kw) Q E s₁) E s) : wpAny M A (callWith pos f first args keywords) Q E s := by
  unfold callWith
  refine wpAny_bind (wpAny_holding (wpAny_mono h (fun a s₁ h₁ => wpAny_bind (wpAny_standAt ?_)) fun _ _ x => x))
  simp only [hplain]
  refine wpAny_bind ((hk _ h₁.1).here ?_)
  dsimp only
  exact wpAny_bind (wpAny_operateT (wpAny_mono h₁.2 (fun r s₂ hr => wpAny_bind (wpAny_holding (wpAny_point (wpAny_pure hr)))) fun _ _ x => x))
theorem keeper_ins {h : Heap} {a C dx : Addr} (e : h.get? a = some (instObj C dx)) : Looks M h (keeperOf (.ref a)) Keeper.caller := (Looks.ld (part := none) e).andThen .now
end
section
variable {prog : Program} {w : World} {A : Around} {R : Result → Shared → Prop} {s : Shared} {K : Frag} {x C dx f : Addr} {od : Option Obj} {args : Args}
theorem code_ins (X : K.In s.heap) (J : InstAt s.heap x (instObj C dx) C od) (hs : findIn K (.ref C) "__call__" = some (some (.ref f))) (hf : isFn K (.ref f) = true) (hl : fnIn K f = true)
    (h : codeAny (model prog w) A (.call (.ref f) ⟨.ref x :: args.pos, args.kw⟩) R s) : codeAny (model prog w) A (.call (.ref x) args) R s := by
  refine codeAny_of_tree ?_
  show wpAny _ A.in1 (callAny (.ref x) args) _ _ s
  simp only [callAny]
  refine wpAny_bind (wpAny_load J.at_ ?_)
  dsimp only
  unfold callAny.viaDunder
  refine wpAny_bind (wpAny_bind (J.type.here ((looks_findIn X hs).here ?_)))
  dsimp only
  refine wpAny_bind ((bind_fn X _ (beq_iff_eq.mp hf)).here ?_)
  dsimp only
  unfold fnIn at hl
  split at hl
  · rename_i e
    refine wpAny_bind ?_
    unfold callAny.plainCallee
    dsimp only
    refine wpAny_bind (wpAny_load (X _ _ e) (wpAny_pure ?_))
    exact wpAny_pure ⟨rfl, h⟩
  · cases hl
end
end PySem.W
namespace DL
open PySem PySem.Spec PyProof.Rows L2
/-- the code of a call -/
def CodeK (γ : Nat → Addr) (X : Cx) (W : WX) (u : Value) (n : Nat) (ks : List Str) (g : List Dv → List Dv → Sto → Re Dv) : Prop :=
  ∀ (pins : List (Addr × Obj)) (s : Shared) (σ : L2.St) (H : Hp) (vs zs : List V) (us ws : List Value) (Q : VK) (Φ F : Hp) (θ : List Addr) (S : Sto) (ds es : List Dv), Inv X pins σ H s → Vals vs us → Vals zs ws → Reps ⟨X.K, γ⟩ F θ vs ds → Reps ⟨X.K, γ⟩ F θ zs es → HA ⟨X.K, γ⟩ Φ F θ S H → ds.length = n → es.length = ks.length →
    PostG ⟨X.K, γ⟩ Φ W σ F θ (Rep ⟨X.K, γ⟩) (g ds es S) Q → codeAny (model X.prog X.w) X.A (.call u ⟨us, ks.zip ws⟩) (wants (EP X pins σ Q) X.xe) s
section
variable {γ : Nat → Addr} {X : Cx} {W : WX} {N : List Str} {sc : Scope} {k : Nat} {pos : Pos}
theorem code_fn {j n : Nat} {f : Addr} {fd : FuncData} {ps : List Str} {g : Fn} (F : FnG X.prog X.w X.K X.mg X.base j f fd ps (spD ⟨X.K, γ⟩ n g)) (hb : Binds X.K fd ps []) (hr : Room j X.A) (hg : X.A.guards = some []) (tk : Takes X W) :
    CodeK γ X W (.ref f) n [] (fun ds _ S => g ds S) := by
  intro pins s σ H vs zs us ws Q Φ F0 θ S ds es I rv rz rd re hh hl hl2 p
  have hsp : spD ⟨X.K, γ⟩ n g vs H Q (fun c d H' => W c d σ H') := ⟨by rw [rd.length]; exact hl, ds, Φ, F0, θ, S, rd, hh, by
    replace p : PostG ⟨X.K, γ⟩ Φ W σ F0 θ (Rep ⟨X.K, γ⟩) (g ds S) Q := p
    revert p
    cases g ds S with
    | ok d S' => exact fun p => p
    | exc c d S' => exact fun p => p
    | bad => exact fun p => p⟩
  have hl2 : us.length = ps.length := by rw [← rv.length]; exact F.len _ _ _ _ hsp
  have hb' := hb s us I.kIn (by rw [List.append_nil]; exact hl2)
  rw [List.append_nil] at hb'
  refine codeAny_mono (F.run X.A X.stack s H ⟨us, []⟩ us vs Q _ hr hg I.env0 hb' rv hsp) fun r s' hq => ?_
  cases r with
  | error e => exact tk e s' (XE.of_call I (fun cls d H' h => h) hq)
  | ok fl =>
    cases fl with
    | ret u => exact I.after hq
    | next => exact False.elim hq
    | brk => exact False.elim hq
    | cont => exact False.elim hq
theorem codeK_fn {j n m : Nat} {f : Addr} {fd : FuncData} {ps ks : List Str} {perm : List Nat} {g : Fn} (F : FnG X.prog X.w X.K X.mg X.base j f fd ps (spD ⟨X.K, γ⟩ n g)) (hb : KB X.K fd ps m ks perm) (hn : perm.length = n) (hp : ∀ i ∈ perm, i < m + ks.length) (hr : Room j X.A) (hg : X.A.guards = some []) (tk : Takes X W) :
    CodeK γ X W (.ref f) m ks (fun ds es S => g (pick perm (ds ++ es)) S) := by
  intro pins s σ H vs zs us ws Q Φ F0 θ S ds es I rv rz rd re hh hl hl2 p
  have rA : Reps ⟨X.K, γ⟩ F0 θ (pick perm (vs ++ zs)) (pick perm (ds ++ es)) := pick_reps (rd.append re) perm
  have vA : Vals (pick perm (vs ++ zs)) (pick perm (us ++ ws)) := pick_vals (rv.append rz) perm
  have hlen : (pick perm (ds ++ es)).length = n := by rw [← hn]; exact pick_len perm _ fun i hi => by rw [List.length_append, hl, hl2]; exact hp i hi
  have hsp : spD ⟨X.K, γ⟩ n g (pick perm (vs ++ zs)) H Q (fun c d H' => W c d σ H') := ⟨by rw [rA.length]; exact hlen, _, Φ, F0, θ, S, rA, hh, by
    replace p : PostG ⟨X.K, γ⟩ Φ W σ F0 θ (Rep ⟨X.K, γ⟩) (g (pick perm (ds ++ es)) S) Q := p
    revert p
    cases g (pick perm (ds ++ es)) S with
    | ok d S' => exact fun p => p
    | exc c d S' => exact fun p => p
    | bad => exact fun p => p⟩
  have hb' := hb s us ws I.kIn (by rw [← rv.length, rd.length]; exact hl) (by rw [← rz.length, re.length]; exact hl2)
  refine codeAny_mono (F.run X.A X.stack s H ⟨us, ks.zip ws⟩ _ _ Q _ hr hg I.env0 hb' vA hsp) fun r s' hq => ?_
  cases r with
  | error e => exact tk e s' (XE.of_call I (fun cls d H' h => h) hq)
  | ok fl =>
    cases fl with
    | ret u => exact I.after hq
    | next => exact False.elim hq
    | brk => exact False.elim hq
    | cont => exact False.elim hq
end
/-- o(..) of an instance of the class c, n arguments and these keywords -/
structure Cll (γ : Nat → Addr) (P : Program) (w : World) (K : PySem.W.Frag) (mg : Str → Option Value) (base : Heap) (c : Nat) (j n : Nat) (ks : List Str) (g : List Dv → List Dv → Sto → Re Dv) : Prop where
  ex : ∃ f : Addr, Meth K (γ c) "__call__" f ∧ PySem.W.fnIn K f = true ∧ ∀ (X : Cx) (W : WX), X.prog = P → X.w = w → X.K = K → X.mg = mg → X.base = base → Room j X.A → X.A.guards = some [] → Takes X W → CodeK γ X W (.ref f) (n + 1) ks g
section
variable {γ : Nat → Addr} {P : Program} {w : World} {K : PySem.W.Frag} {mg : Str → Option Value} {base : Heap} {c j n : Nat} {g : Fn}
theorem Cll.of {f : Addr} {fd : FuncData} {ps : List Str} (F : FnG P w K mg base j f fd ps (spD ⟨K, γ⟩ (n + 1) g)) (hm : Meth K (γ c) "__call__" f) (hf : PySem.W.fnIn K f = true) (hb : Binds K fd ps []) : Cll γ P w K mg base c j n [] (fun ds _ S => g ds S) :=
  ⟨f, hm, hf, by rintro X W rfl rfl rfl rfl rfl hr hg tk; exact code_fn F hb hr hg tk⟩
theorem Cll.ofK {m : Nat} {f : Addr} {fd : FuncData} {ps ks : List Str} {perm : List Nat} (F : FnG P w K mg base j f fd ps (spD ⟨K, γ⟩ m g)) (hm : Meth K (γ c) "__call__" f) (hf : PySem.W.fnIn K f = true) (hb : KB K fd ps (n + 1) ks perm) (hn : perm.length = m) (hp : ∀ i ∈ perm, i < (n + 1) + ks.length) :
    Cll γ P w K mg base c j n ks (fun ds es S => g (pick perm (ds ++ es)) S) :=
  ⟨f, hm, hf, by rintro X W rfl rfl rfl rfl rfl hr hg tk; exact codeK_fn F hb hn hp hr hg tk⟩
end
section
variable {γ : Nat → Addr} {X : Cx} {W : WX} {N : List Str} {sc : Scope} {k : Nat} {pos : Pos}
theorem icall {cc j n : Nat} {ks : List Str} {g : List Dv → List Dv → Sto → Re Dv} (c : Ctx X W N sc k) (h : Cll γ X.prog X.w X.K X.mg X.base cc j n ks g) (hj : j ≤ k) {pins : List (Addr × Obj)} {s : Shared} {σ : L2.St} {H : Hp} {v : V} {u : Value} {vs zs : List V} {us ws : List Value} {Q : VK} {Φ F : Hp} {θ : List Addr} {S : Sto} {d : Dv} {ds es : List Dv}
    (I : Inv X pins σ H s) (rv : RelV v u) (rd : Rep ⟨X.K, γ⟩ F θ v d) (rvs : Vals vs us) (rzs : Vals zs ws) (rds : Reps ⟨X.K, γ⟩ F θ vs ds) (res : Reps ⟨X.K, γ⟩ F θ zs es) (hh : HA ⟨X.K, γ⟩ Φ F θ S H) (hl : ds.length = n) (hl2 : es.length = ks.length) (hi : isOf cc S d = true)
    (p : PostG ⟨X.K, γ⟩ Φ W σ F θ (Rep ⟨X.K, γ⟩) (g (d :: ds) es S) Q) : (∃ a dx, u = .ref a ∧ s.heap.get? a = some (PySem.W.instObj (γ cc) dx)) ∧ wpAny (model X.prog X.w) X.A (call u us (ks.zip ws)) (EP X pins σ Q) X.xe s := by
  obtain ⟨f, hm, hf, hc⟩ := h.ex
  obtain ⟨a, dx, gs, rfl, ha⟩ := isOf_rep hh rd hi
  obtain rfl : u = Value.ref a := rv
  obtain ⟨mA, J, _⟩ := ins_get I.hok ha
  have hx := J.obj
  obtain ⟨od, J, _⟩ := J.look
  refine ⟨⟨a, dx, rfl, hx⟩, wpAny_call (PySem.W.code_ins I.kIn J hm.at_ hm.fn hf ?_)⟩
  exact hc X W rfl rfl rfl rfl rfl (c.hr.mono hj) c.gd c.tk pins s σ H (.ref a :: vs) zs (.ref a :: us) ws Q Φ F θ S (d :: ds) es I (.cons rfl rvs) rzs (.cons rd rds) res hh (by rw [List.length_cons, hl]) hl2 p
def eICall (c n : Nat) (g : List Dv → List Dv → Sto → Re Dv) (a : Ex) (as : Xs) : Ex := fun ρ S => (a ρ S).bind fun d S1 => (as ρ S1).bind fun ds S2 => if isOf c S2 d = true ∧ ds.length = n then g (d :: ds) [] S2 else .bad
def eICallK (c n : Nat) (g : List Dv → List Dv → Sto → Re Dv) (a : Ex) (as : Xs) : Ex := fun ρ S => (a ρ S).bind fun d S1 => (as ρ S1).bind fun ds S2 => if isOf c S2 d = true ∧ ds.length = n then g [d] ds S2 else .bad
theorem de_icall {cc j n : Nat} {g : List Dv → List Dv → Sto → Re Dv} {x : Str} {p : Pos} {e : Expr} {es : List Expr} {fo : Ex} {fa : Xs} (c : Ctx X W N sc k) (h : Cll γ X.prog X.w X.K X.mg X.base cc j n [] g) (hj : j ≤ k := by decide) (ho : DE γ X W (.Name x p) fo)
    (ha : DAs γ X W (e :: es) fa) (he : starEach (e :: es) X.env = (false, eval e X.env) :: starEach es X.env := by rfl) (hpl : (backTo pos (starEach es X.env)).any (·.1) = false := by rfl) :
    DE γ X W (.Call (.Name x p) (e :: es) [] pos) (eICall cc n g fo fa) := by
  refine ⟨fun pins s σ H Q I ⟨Φ, ρ, F, θ, S, ea, hh, p⟩ => ?_⟩
  refine wpAny_Call_Name_kw (thn (ho.run pins s σ H (fun v H1 => ∃ F1 θ1 S1 d, Gr F F1 θ θ1 ∧ Rep ⟨X.K, γ⟩ F1 θ1 v d ∧ HA ⟨X.K, γ⟩ Φ F1 θ1 S1 H1 ∧ PostG ⟨X.K, γ⟩ Φ W σ F1 θ1 (Rep ⟨X.K, γ⟩) ((fa ρ S1).bind fun ds S2 => if isOf cc S2 d = true ∧ ds.length = n then g (d :: ds) [] S2 else .bad) Q) I
    ⟨Φ, ρ, F, θ, S, ea, hh, PostG.seq p fun d S1 v F1 θ1 H1 _ g1 h1 r p1 => ⟨F1, θ1, S1, d, g1, r, h1, p1⟩⟩) fun u s1 ⟨v, H1, I1, rv, F1, θ1, S1, d, g1, rd, h1, p1⟩ => ?_)
  refine PySem.W.callWith_cal (P := fun h => ∃ a dx, u = .ref a ∧ h.get? a = some (PySem.W.instObj (γ cc) dx)) ?_ (fun h ⟨a, dx, e, q⟩ => by subst e; exact PySem.W.keeper_ins q) ?_
  · rw [he]
    show ((false || (backTo pos (starEach es X.env)).any (·.1)) || false) = false
    rw [hpl]; rfl
  have q := ha.run pos pins s1 σ H1 (fun vs H2 => ∃ F2 θ2 S2 ds, Gr F1 F2 θ1 θ2 ∧ Reps ⟨X.K, γ⟩ F2 θ2 vs ds ∧ HA ⟨X.K, γ⟩ Φ F2 θ2 S2 H2 ∧ (isOf cc S2 d = true ∧ ds.length = n) ∧ PostG ⟨X.K, γ⟩ Φ W σ F2 θ2 (Rep ⟨X.K, γ⟩) (g (d :: ds) [] S2) Q) I1
    ⟨Φ, ρ, F1, θ1, S1, ea.ext g1, h1, PostG.seq p1 fun ds S2 vs F2 θ2 H2 _ g2 h2 r p2 => let ⟨a, b⟩ := post_if p2; ⟨F2, θ2, S2, ds, g2, r, h2, a, b⟩⟩
  rw [he] at q ⊢
  refine PySem.Calls.evalArgs_plain (thn q fun us s2 ⟨vs, H2, I2, rvs, F2, θ2, S2, ds, g2, rds, h2, hn, p2⟩ => ?_)
  exact icall c h hj I2 rv (rd.ext g2) rvs .nil rds .nil h2 hn.2 rfl hn.1 p2
theorem de_icallK {cc j : Nat} {ks : List Str} {g : List Dv → List Dv → Sto → Re Dv} {x : Str} {p : Pos} {kws : List Keyword} {fo : Ex} {fa : Xs} (c : Ctx X W N sc k) (h : Cll γ X.prog X.w X.K X.mg X.base cc j 0 ks g) (hj : j ≤ k := by decide) (ho : DE γ X W (.Name x p) fo) (ha : DKs γ X W kws fa)
    (hall : (backToKw pos (keywordEach kws X.env)).all (·.1.isSome) = true := by rfl) (hks : (backToKw pos (keywordEach kws X.env)).filterMap (·.1) = ks := by rfl)
    (hpl : ((backTo pos (starEach [] X.env)).any (·.1) || (backToKw pos (keywordEach kws X.env)).any (·.1.isNone)) = false := by rfl) :
    DE γ X W (.Call (.Name x p) [] kws pos) (eICallK cc ks.length g fo fa) := by
  refine ⟨fun pins s σ H Q I ⟨Φ, ρ, F, θ, S, ea, hh, p⟩ => ?_⟩
  refine wpAny_Call_Name_kw (thn (ho.run pins s σ H (fun v H1 => ∃ F1 θ1 S1 d, Gr F F1 θ θ1 ∧ Rep ⟨X.K, γ⟩ F1 θ1 v d ∧ HA ⟨X.K, γ⟩ Φ F1 θ1 S1 H1 ∧ PostG ⟨X.K, γ⟩ Φ W σ F1 θ1 (Rep ⟨X.K, γ⟩) ((fa ρ S1).bind fun ds S2 => if isOf cc S2 d = true ∧ ds.length = ks.length then g [d] ds S2 else .bad) Q) I
    ⟨Φ, ρ, F, θ, S, ea, hh, PostG.seq p fun d S1 v F1 θ1 H1 _ g1 h1 r p1 => ⟨F1, θ1, S1, d, g1, r, h1, p1⟩⟩) fun u s1 ⟨v, H1, I1, rv, F1, θ1, S1, d, g1, rd, h1, p1⟩ => ?_)
  refine PySem.W.callWith_cal (P := fun h => ∃ a dx, u = .ref a ∧ h.get? a = some (PySem.W.instObj (γ cc) dx)) hpl (fun h ⟨a, dx, e, q⟩ => by subst e; exact PySem.W.keeper_ins q) ?_
  refine PyProof.Rows.evalArgs_kw2_nil hall (thn (ha.run pos pins s1 σ H1 (fun vs H2 => ∃ F2 θ2 S2 ds, Gr F1 F2 θ1 θ2 ∧ Reps ⟨X.K, γ⟩ F2 θ2 vs ds ∧ HA ⟨X.K, γ⟩ Φ F2 θ2 S2 H2 ∧ (isOf cc S2 d = true ∧ ds.length = ks.length) ∧ PostG ⟨X.K, γ⟩ Φ W σ F2 θ2 (Rep ⟨X.K, γ⟩) (g [d] ds S2) Q) I1
    ⟨Φ, ρ, F1, θ1, S1, ea.ext g1, h1, PostG.seq p1 fun ds S2 vs F2 θ2 H2 _ g2 h2 r p2 => let ⟨a, b⟩ := post_if p2; ⟨F2, θ2, S2, ds, g2, r, h2, a, b⟩⟩) fun ws s2 ⟨vs, H2, I2, rvs, F2, θ2, S2, ds, g2, rds, h2, hn, p2⟩ => ?_)
  rw [hks]
  exact icall c h hj I2 rv (rd.ext g2) .nil rvs .nil rds h2 rfl hn.2 hn.1 p2
/-- *x, .. in a display -/
def aStar (a : Ex) (r : Xs) : Xs := fun ρ S => (a ρ S).bind fun x S1 => match asQ S1 x with
  | some l => (r ρ S1).bind fun xs S2 => .ok (l ++ xs) S2
  | none => .bad
theorem da_star {e : Expr} {es : List Expr} {fa : Ex} {fr : Xs} {p : Pos} (ha : DE γ X W e fa) (hr : DAs γ X W es fr) (hs : starEach (.Starred e p :: es) X.env = (true, eval e X.env) :: starEach es X.env := by rfl) : DAs γ X W (.Starred e p :: es) (aStar fa fr) :=
  PA.weak (StX.pa_star ha hr hs) fun σ H Q ⟨Φ, ρ, F, θ, S, ea, hh, p⟩ => ⟨Φ, ρ, F, θ, S, ea, hh, PostG.seq p fun d S1 v F1 θ1 H1 _ g1 h1 r p1 => by
    cases hq : asQ S1 d with
    | none => rw [hq] at p1; exact p1.elim
    | some l =>
      rw [hq] at p1
      obtain ⟨a, xs, rfl, hx, rs⟩ := asQ_rep r h1 hq
      exact ⟨a, xs, rfl, hx.symm, Φ, ρ, F1, θ1, S1, ea.ext g1, h1, PostG.seq p1 fun ds S2 vs F2 θ2 H2 _ g2 h2 r2 p2 => p2.ok h2 ((rs.ext g2).append r2)⟩⟩
end
end DL

/-! Evaluating what the D layer denotes, 1: loops, comprehensions, plain data. -/
namespace DL
open PySem PySem.Spec PyProof.Rows L2

/-! ### comprehensions that leave the store alone -/
theorem lcL_pure {b : Dv → Sto → Re (Option Dv)} {chk : Sto → Prop} {G : Dv → Option Dv} {S : Sto} (hc : chk S) : ∀ l : List Dv, (∀ d ∈ l, b d S = .ok (G d) S) → lcL b chk l S = .ok (l.filterMap G) S
  | [], _ => rfl
  | d :: r, h => by
    unfold lcL
    rw [h d List.mem_cons_self, Re.bind_ok, if_pos hc, lcL_pure hc r fun e he => h e (List.mem_cons_of_mem _ he), Re.bind_ok]
    cases e : G d <;> simp [e]
theorem eLc_pure {f : It'} {g : Gt} {t : Tt} {e : Ex} {vs : List Nat} {ρ : En} {S : Sto} {l : List Dv} {chk : Sto → Prop} (G : Dv → Option Dv) (hf : f ρ S = .ok (l, chk) S) (hc : chk S) (hl : l.length ≤ sizeLine) (hb : ∀ d ∈ l, turnD g t e (wipeE ρ vs) d S = .ok (G d) S) :
    eLc f g t e vs ρ S = .ok (.lst (l.filterMap G)) S := by
  unfold eLc eN lcD
  rw [hf, Re.bind_ok, if_pos ⟨hc, hl⟩, lcL_pure hc l hb, Re.bind_ok]
theorem turn_map {i : Nat} {e : Ex} {ρ : En} {d y : Dv} {S : Sto} (h : e (ρ.set i (some d)) S = .ok y S) : turnD (gN i) ttYes e ρ d S = .ok (some y) S := by
  unfold turnD gN ttYes
  simp [noexc, h]
theorem turn_if {i : Nat} {t : Tt} {e : Ex} {ρ : En} {d y : Dv} {c : Bool} {S : Sto} (ht : t (ρ.set i (some d)) S = .ok c S) (h : e (ρ.set i (some d)) S = .ok y S) : turnD (gN i) t e ρ d S = .ok (if c = true then some y else none) S := by
  unfold turnD gN
  cases c <;> simp [noexc, ht, h]

/-! ### loops -/
theorem forL_inv {b : Dv → Sm} {chk : Sto → Prop} {l : List Dv} (P : Nat → En → Sto → Prop) (step : ∀ i d ρ S, l[i]? = some d → P i ρ S → ∃ ρ' S', b d ρ S = .nx ρ' S' ∧ chk S' ∧ P (i + 1) ρ' S') :
    ∀ (r pre : List Dv), l = pre ++ r → ∀ ρ S, P pre.length ρ S → ∃ ρ' S', forL b chk r ρ S = .nx ρ' S' ∧ P l.length ρ' S'
  | [], pre, hl, ρ, S, h => ⟨ρ, S, rfl, by rw [hl, List.append_nil]; exact h⟩
  | d :: r, pre, hl, ρ, S, h => by
    obtain ⟨ρ', S', h1, h2, h3⟩ := step pre.length d ρ S (by rw [hl, List.getElem?_append_right (Nat.le_refl _), Nat.sub_self]; rfl) h
    obtain ⟨ρ2, S2, h4, h5⟩ := forL_inv P step r (pre ++ [d]) (by rw [hl, List.append_assoc]; rfl) ρ' S' (by rw [List.length_append]; exact h3)
    refine ⟨ρ2, S2, ?_, h5⟩
    unfold forL
    rw [h1]
    dsimp only
    rw [if_pos h2]
    exact h4
theorem sFor_inv {f : It'} {g : Gt} {b : Sm} {ρ : En} {S S0 : Sto} {l : List Dv} {chk : Sto → Prop} (P : Nat → En → Sto → Prop) (hf : f ρ S = .ok (l, chk) S0) (hc : chk S0) (h0 : P 0 ρ S0)
    (step : ∀ i d ρ S, l[i]? = some d → P i ρ S → ∃ ρ' S', optS (g d ρ S) b = .nx ρ' S' ∧ chk S' ∧ P (i + 1) ρ' S') : ∃ ρ' S', sFor f g b ρ S = .nx ρ' S' ∧ P l.length ρ' S' := by
  unfold sFor
  rw [hf, Re.toS_ok, if_pos hc]
  exact forL_inv P step l [] rfl ρ S0 h0
theorem always_ (S : Sto) : always S := trivial

/-! ### texts, triples of texts -/
abbrev R3 := Str × Str × Str
def dR (r : R3) : Dv := .tup [.str r.1, .str r.2.1, .str r.2.2]
def unR : Dv → Option R3
  | .tup [.str a, .str b, .str c] => some (a, b, c)
  | _ => none
theorem unR_of {d : Dv} {r : R3} (h : unR d = some r) : d = dR r := by
  unfold unR at h
  split at h
  · cases h; rfl
  · cases h
def unRs : List Dv → Option (List R3)
  | [] => some []
  | d :: r => (unR d).bind fun x => (unRs r).map (x :: ·)
theorem unRs_map : ∀ ks : List R3, unRs (ks.map dR) = some ks
  | [] => rfl
  | x :: r => by simp [unRs, unRs_map r, unR, dR]
theorem unRs_of : ∀ {l : List Dv} {ks : List R3}, unRs l = some ks → l = ks.map dR
  | [], _, h => by cases h; rfl
  | d :: r, ks, h => by
    simp only [unRs] at h
    obtain ⟨x, h1, h2⟩ := Option.bind_eq_some_iff.mp h
    obtain ⟨q, h3, rfl⟩ := Option.map_eq_some_iff.mp h2
    rw [unRs_of h3, unR_of h1]
    rfl
/-! as the library's data -/
def pR (r : R3) : PyData := .tuple [.str r.1, .str r.2.1, .str r.2.2]
theorem toPy_str (S : Sto) (x : Str) : toPy S (.str x) = some (.str x) := by rw [toPy]
theorem toPy_int (S : Sto) (x : Int) : toPy S (.int x) = some (.int x) := by rw [toPy]
theorem toPy_bl (S : Sto) (x : Bool) : toPy S (.bl x) = some (.bool x) := by rw [toPy]
theorem toPys_map {α : Type} {S : Sto} {f : α → Dv} {g : α → PyData} (h : ∀ a, toPy S (f a) = some (g a)) : ∀ l : List α, toPys S (l.map f) = some (l.map g)
  | [] => by simp [toPys]
  | a :: r => by simp [toPys, h a, toPys_map h r]
theorem toPy_lst {S : Sto} {l : List Dv} {ps : List PyData} (h : toPys S l = some ps) : toPy S (.lst l) = some (.list ps) := by rw [toPy, h]; rfl
theorem toPy_tup {S : Sto} {l : List Dv} {ps : List PyData} (h : toPys S l = some ps) : toPy S (.tup l) = some (.tuple ps) := by rw [toPy, h]; rfl
theorem toPy_dR (S : Sto) (r : R3) : toPy S (dR r) = some (pR r) := by
  unfold dR pR
  refine toPy_tup ?_
  simp [toPys, toPy_str]
theorem pyPs_map {α : Type} {f : α → Dv} {g : α → PyData} (h : ∀ a, pyP (f a) = some (g a)) : ∀ l : List α, pyPs (l.map f) = some (l.map g)
  | [] => by simp [pyPs]
  | a :: r => by simp [pyPs, h a, pyPs_map h r]
theorem pyP_str (x : Str) : pyP (.str x) = some (.str x) := by rw [pyP]
theorem pyP_dR (r : R3) : pyP (dR r) = some (pR r) := by
  unfold dR pR
  rw [pyP]
  simp [pyPs, pyP_str]
theorem toPy_cell {S : Sto} {k : Nat} {l : List Dv} {ps : List PyData} (h : S[k]? = some (.lst l)) (e : pyPs l = some ps) : toPy S (.cell k) = some (.list ps) := by
  rw [toPy, h]
  simp [e]
theorem canAll {α : Type} {g : α → PyData} : ∀ {l : List α}, (∀ a ∈ l, (g a).canLay0 = true) → PyData.canLayAll0 (l.map g) = true
  | [], _ => by simp [PyData.canLayAll0]
  | a :: r, h => by
    rw [List.map_cons, PyData.canLayAll0, h a List.mem_cons_self, canAll fun b hb => h b (List.mem_cons_of_mem _ hb)]
    rfl
theorem depthAll_le {α : Type} {g : α → PyData} {n : Nat} : ∀ {l : List α}, (∀ a ∈ l, (g a).depth ≤ n) → PyData.depthAll (l.map g) ≤ n
  | [], _ => by simp [PyData.depthAll]
  | a :: r, h => by
    rw [List.map_cons, PyData.depthAll]
    exact Nat.max_le.mpr ⟨h a List.mem_cons_self, depthAll_le fun b hb => h b (List.mem_cons_of_mem _ hb)⟩
theorem shaped_list {α : Type} {g : α → PyData} {l : List α} (h : ∀ a ∈ l, (g a).canLay0 = true ∧ (g a).depth ≤ 8) : SeqAt.shaped (.list (l.map g)) = true ∧ SeqAt.shaped (.tuple (l.map g)) = true := by
  have h1 := canAll (l := l) (g := g) fun a ha => (h a ha).1
  have h2 := depthAll_le (n := 8) (l := l) (g := g) fun a ha => (h a ha).2
  have h3 : decide (PyData.depthAll (l.map g) + 1 ≤ 64) = true := decide_eq_true (by omega)
  constructor
  · unfold SeqAt.shaped
    rw [PyData.canLay0, PyData.depth, h1, h3]
    rfl
  · unfold SeqAt.shaped
    rw [PyData.canLay0, PyData.depth, h1, h3]
    rfl
theorem eqv_str (x y : Str) : PyData.eqv (.str x) (.str y) = (x == y) := by simp [PyData.eqv]
theorem eqv_pR (x y : R3) : PyData.eqv (pR x) (pR y) = decide (x = y) := by
  obtain ⟨a, b, c⟩ := x
  obtain ⟨d, e, f⟩ := y
  rw [Bool.eq_iff_iff]
  simp [PyData.eqv, PyData.eqvAll, pR]
theorem eqvAll_map {α : Type} [DecidableEq α] {g : α → PyData} (h : ∀ a b, PyData.eqv (g a) (g b) = decide (a = b)) : ∀ l m : List α, PyData.eqvAll (l.map g) (m.map g) = decide (l = m)
  | [], [] => by simp [PyData.eqvAll]
  | [], _ :: _ => by simp [PyData.eqvAll]
  | _ :: _, [] => by simp [PyData.eqvAll]
  | a :: r, b :: t => by
    rw [List.map_cons, List.map_cons, PyData.eqvAll, h a b, eqvAll_map h r t, Bool.eq_iff_iff]
    simp
end DL

/-! What a def leaves: its new cells are frozen in what it tells, and dropped. -/
namespace DL
open PySem PySem.Spec PyProof.Rows L2

def frz (S : Sto) (n : Nat) : Nat → Dv → Dv
  | 0, d => d
  | f + 1, .cell j => if n ≤ j then (match S[j]? with
      | some (.lst l) => .lst (l.map (frz S n f))
      | some (.ins c fs) => .ins c (fs.map fun x => (x.1, frz S n f x.2))
      | some (.dic l) => .dic (l.map fun x => (x.1, frz S n f x.2))
      | _ => .cell j) else .cell j
  | f + 1, .tup l => .tup (l.map (frz S n f))
  | f + 1, .ktup l => .ktup (l.map (frz S n f))
  | f + 1, .lst l => .lst (l.map (frz S n f))
  | f + 1, .ins c fs => .ins c (fs.map fun x => (x.1, frz S n f x.2))
  | _, d => d
section
variable {M : Ev} {Φ F : Hp} {θ : List Addr} {S : Sto} {H : Hp}
theorem Reps.mapD {g : Dv → Dv} (k : ∀ v d, Rep M F θ v d → Rep M F θ v (g d)) : ∀ {vs : List V} {ds : List Dv}, Reps M F θ vs ds → Reps M F θ vs (ds.map g)
  | _, _, .nil => .nil
  | _, _, .cons h r => .cons (k _ _ h) (Reps.mapD k r)
theorem RepF.mapD {g : Dv → Dv} (k : ∀ v d, Rep M F θ v d → Rep M F θ v (g d)) : ∀ {vs : List (Str × V)} {ds : List (Str × Dv)}, RepF M F θ vs ds → RepF M F θ vs (ds.map fun x => (x.1, g x.2))
  | _, _, .nil => .nil
  | _, _, .cons h r => .cons (k _ _ h) (RepF.mapD k r)
theorem RepK.mapD {g : Dv → Dv} (k : ∀ v d, Rep M F θ v d → Rep M F θ v (g d)) : ∀ {vs : List (List L2.Key × V)} {ds : List (List L2.Key × Dv)}, RepK M F θ vs ds → RepK M F θ vs (ds.map fun x => (x.1, g x.2))
  | _, _, .nil => .nil
  | _, _, .cons h r => .cons (k _ _ h) (RepK.mapD k r)
/-- all later cells are frozen -/
def F2of (F H : Hp) (θ : List Addr) (n : Nat) : Hp := open Classical in fun a => if a ∈ θ.drop n then H a else F a
theorem F2_gr (h : HA M Φ F θ S H) (n : Nat) : Gr F (F2of F H θ n) θ θ := ⟨fun a o q => by
  unfold F2of
  split
  · exact h.sub _ _ q
  · exact q, fun _ _ q => q⟩
theorem F2_sub (h : HA M Φ F θ S H) (n : Nat) : ∀ a o, F2of F H θ n a = some o → H a = some o := fun a o q => by
  unfold F2of at q
  split at q
  · exact q
  · exact h.sub _ _ q
theorem F2_cell (h : HA M Φ F θ S H) {n j : Nat} {a : Addr} {ob : Ob} (hn : n ≤ j) (ha : θ[j]? = some a) (hs : S[j]? = some ob) (hg : ob ≠ .gone) : ∃ o, F2of F H θ n a = some o ∧ RepO M (F2of F H θ n) θ o ob := by
  obtain ⟨_, o, h5, h6⟩ := h.live j a ob ha hs hg
  refine ⟨o, ?_, h6.ext (F2_gr h n)⟩
  unfold F2of
  rw [if_pos]
  · exact h5
  · refine List.mem_iff_getElem?.mpr ⟨j - n, ?_⟩
    rw [List.getElem?_drop, show n + (j - n) = j by omega, ha]
theorem frz_rep (h : HA M Φ F θ S H) (n : Nat) : ∀ (f : Nat) {v : V} {d : Dv}, Rep M (F2of F H θ n) θ v d → Rep M (F2of F H θ n) θ v (frz S n f d)
  | 0, _, _, r => r
  | f + 1, v, d, r => by
    have ih : ∀ v d, Rep M (F2of F H θ n) θ v d → Rep M (F2of F H θ n) θ v (frz S n f d) := fun v d => frz_rep h n f
    cases r with
    | @cell j a ha =>
      unfold frz
      split
      · rename_i hn
        split
        · rename_i l hs
          obtain ⟨o, h1, h2⟩ := F2_cell h hn ha hs (by intro z; cases z)
          cases o <;> first | exact h2.elim | skip
          exact .lst h1 (Reps.mapD ih h2)
        · rename_i c fs hs
          obtain ⟨o, h1, h2⟩ := F2_cell h hn ha hs (by intro z; cases z)
          cases o <;> first | exact h2.elim | skip
          obtain ⟨rfl, h2⟩ := h2
          exact .ins h1 (RepF.mapD ih h2)
        · rename_i l hs
          obtain ⟨o, h1, h2⟩ := F2_cell h hn ha hs (by intro z; cases z)
          cases o <;> first | exact h2.elim | skip
          exact .dic h1 (RepK.mapD ih h2)
        · exact .cell ha
      · exact .cell ha
    | tup h1 r => exact .tup h1 (Reps.mapD ih r)
    | ktup h1 h2 r => exact .ktup h1 h2 (Reps.mapD ih r)
    | lst h1 r => exact .lst h1 (Reps.mapD ih r)
    | ins h1 r => exact .ins h1 (RepF.mapD ih r)
    | non => exact .non
    | bl b => exact .bl b
    | int i => exact .int i
    | str x => exact .str x
    | ro h1 r => exact .ro h1 r
    | dic h1 r => exact .dic h1 r
    | con v => exact .con v
    | exn h1 r => exact .exn h1 r
    | cls c => exact .cls c
theorem F2_cut (h : HA M Φ F θ S H) {n : Nat} (hn : n ≤ S.length) (hl : ∀ ob ∈ S.take n, lowO n ob = true) : HA M Φ (F2of F H θ n) (θ.take n) (S.take n) H := by
  refine ⟨F2_sub h n, by rw [List.length_take, List.length_take, h.len], h.nd.sublist (List.take_sublist _ _), fun a ha => h.trk a (List.mem_of_mem_take ha), fun k a ob h1 h2 h3 => ?_, fun a o q => ?_⟩
  · have hk : k < n := by
      have := (List.getElem?_eq_some_iff.mp h2).1
      rw [List.length_take] at this
      omega
    rw [List.getElem?_take_of_lt hk] at h1 h2
    obtain ⟨h4, o, h5, h6⟩ := h.live k a ob h1 h2 h3
    refine ⟨?_, o, h5, (h6.ext (F2_gr h n)).cut (hl ob (List.mem_of_getElem? (by rw [List.getElem?_take_of_lt hk]; exact h2)))⟩
    unfold F2of
    rw [if_neg]
    · exact h4
    · intro m
      obtain ⟨i, hi⟩ := List.mem_iff_getElem?.mp m
      rw [List.getElem?_drop] at hi
      have l1 := List.getElem?_eq_some_iff.mp h1
      have l2 := List.getElem?_eq_some_iff.mp hi
      have := (List.getElem_inj h.nd).mp (l1.2.trans l2.2.symm)
      omega
  · obtain ⟨g1, g2, g3⟩ := h.fr a o q
    refine ⟨g1, ?_, fun m => g3 (List.mem_of_mem_take m)⟩
    unfold F2of
    rw [if_neg fun m => g3 (List.mem_of_mem_drop m)]
    exact g2
end
/-- the cells that stood before are as they were, or hold nothing new -/
def Kept (S S' : Sto) : Prop := S.length ≤ S'.length ∧ ∀ i, i < S.length → S'[i]? = S[i]? ∨ ∃ ob, S'[i]? = some ob ∧ lowO S.length ob = true
theorem Kept.low {S S' : Sto} (h : Kept S S') (c : Closed S) : ∀ ob ∈ S'.take S.length, lowO S.length ob = true := fun ob m => by
  obtain ⟨i, hi⟩ := List.mem_iff_getElem?.mp m
  have hk : i < S.length := by
    have := (List.getElem?_eq_some_iff.mp hi).1
    rw [List.length_take] at this
    omega
  rw [List.getElem?_take_of_lt hk] at hi
  rcases h.2 i hk with q | ⟨o, q, l⟩
  · rw [hi] at q
    exact c ob (List.mem_of_getElem? q.symm)
  · rw [hi] at q
    cases q
    exact l
open Classical in
noncomputable def fzR (S : Sto) : Re Dv → Re Dv
  | .ok d S' => if Kept S S' ∧ lowD S.length (frz S' S.length 8 d) = true then .ok (frz S' S.length 8 d) (S'.take S.length) else .ok d S'
  | .exc c d S' => if Kept S S' ∧ lowD S.length (frz S' S.length 8 d) = true then .exc c (frz S' S.length 8 d) (S'.take S.length) else .exc c d S'
  | .bad => .bad
theorem fzR_le {S : Sto} (c : Closed S) (r : Re Dv) : Le S.length r (fzR S r) := by
  cases r with
  | bad => exact Le.refl _
  | ok d S' =>
    simp only [fzR]
    split
    · rename_i h
      intro M Φ W σ F θ Q e p v F' θ' H' g hh r
      have g2 := F2_gr hh S.length
      exact p v _ _ H' ((g.trans g2).cut (by omega)) (F2_cut hh h.1.1 (h.1.low c)) ((frz_rep hh _ 8 (r.ext g2)).cut h.2)
    · exact Le.refl _
  | exc x d S' =>
    simp only [fzR]
    split
    · rename_i h
      intro M Φ W σ F θ Q e p dd v F' θ' H' g hh hx r
      have g2 := F2_gr hh S.length
      exact p dd v _ _ H' ((g.trans g2).cut (by omega)) (F2_cut hh h.1.1 (h.1.low c)) (g2.le _ _ hx) ((frz_rep hh _ 8 (r.ext g2)).cut h.2)
    · exact Le.refl _
noncomputable def fz (g : Fn) : Fn := fun ds S => fzR S (g ds S)
theorem fz_le (g : Fn) (ds : List Dv) (S : Sto) (c : Closed S) : Le S.length (g ds S) (fz g ds S) := fzR_le c _
/-! ### how it is used -/
theorem Kept.rfl {S : Sto} : Kept S S := ⟨Nat.le_refl _, fun _ _ => .inl (Eq.refl _)⟩
end DL

/-! Running what the D layer denotes, by rewriting. -/
namespace DL
open PySem PySem.Spec PyProof.Rows L2

/-- a run, and what comes behind it -/
def Hold (r : SRe) (rest : List Sm) (P : SRe → Prop) : Prop := P (rest.foldl SRe.seq r)
theorem Hold_congr {r r' : SRe} {rest : List Sm} {P : SRe → Prop} (h : r = r') : Hold r rest P = Hold r' rest P := by rw [h]
section
variable {ρ : En} {S S1 S2 : Sto} {rest : List Sm} {P : SRe → Prop} {d x y : Dv}
theorem hold_seq {f g : Sm} : Hold (sSeq f g ρ S) rest P = Hold (f ρ S) (g :: rest) P := id rfl
theorem hold_nx {g : Sm} : Hold (.nx ρ S) (g :: rest) P = Hold (g ρ S) rest P := id rfl
theorem hold_nx0 : Hold (.nx ρ S) [] P = P (.nx ρ S) := id rfl
theorem fold_ret : ∀ rest : List Sm, rest.foldl SRe.seq (.ret d S) = .ret d S
  | [] => rfl
  | _ :: r => fold_ret r
theorem fold_brk : ∀ rest : List Sm, rest.foldl SRe.seq (.brk ρ S) = .brk ρ S
  | [] => rfl
  | _ :: r => fold_brk r
theorem fold_ct : ∀ rest : List Sm, rest.foldl SRe.seq (.ct ρ S) = .ct ρ S
  | [] => rfl
  | _ :: r => fold_ct r
theorem fold_exc {c : Nat} : ∀ rest : List Sm, rest.foldl SRe.seq (.exc c d ρ S) = .exc c d ρ S
  | [] => rfl
  | _ :: r => fold_exc r
theorem hold_ret : Hold (.ret d S) rest P = P (.ret d S) := by unfold Hold; rw [fold_ret]
theorem hold_brk : Hold (.brk ρ S) rest P = P (.brk ρ S) := by unfold Hold; rw [fold_brk]
theorem hold_ct : Hold (.ct ρ S) rest P = P (.ct ρ S) := by unfold Hold; rw [fold_ct]
theorem hold_exc {c : Nat} : Hold (.exc c d ρ S) rest P = P (.exc c d ρ S) := by unfold Hold; rw [fold_exc]
theorem toR_nx : (SRe.nx ρ S).toR = .ok .non S := id rfl
theorem toR_ret : (SRe.ret d S).toR = .ok d S := id rfl
theorem toR_exc {c : Nat} : (SRe.exc c d ρ S).toR = .exc c d S := id rfl
theorem hold_ite {c : Prop} [Decidable c] {a b : SRe} (h1 : c → Hold a rest P) (h2 : ¬c → Hold b rest P) : Hold (if c then a else b) rest P := by
  by_cases h : c
  · rw [if_pos h]; exact h1 h
  · rw [if_neg h]; exact h2 h
/-! binds -/
theorem bind_congr {α β : Type} {r r' : Re α} {k : α → Sto → Re β} (h : r = r') : r.bind k = r'.bind k := by rw [h]
theorem toS_congr {α : Type} {r r' : Re α} {k : α → Sto → SRe} (h : r = r') : r.toS ρ k = r'.toS ρ k := by rw [h]
theorem bnd_ok {α β : Type} (a : α) (S : Sto) (k : α → Sto → Re β) : (Re.ok a S).bind k = k a S := id rfl
theorem bnd_exc {α β : Type} (c : Nat) (d : Dv) (S : Sto) (k : α → Sto → Re β) : (Re.exc c d S : Re α).bind k = .exc c d S := id rfl
theorem toS_ok {α : Type} (a : α) (S : Sto) (ρ : En) (k : α → Sto → SRe) : (Re.ok a S).toS ρ k = k a S := id rfl
theorem toS_exc {α : Type} (c : Nat) (d : Dv) (S : Sto) (ρ : En) (k : α → Sto → SRe) : (Re.exc c d S : Re α).toS ρ k = .exc c d ρ S := id rfl
theorem opt_some (ρ : En) (S : Sto) (k : Sm) : optS (some (ρ, S)) k = k ρ S := id rfl
theorem opt_congr {r r' : Option (En × Sto)} {k : Sm} (h : r = r') : optS r k = optS r' k := by rw [h]
/-- a way that is open if something holds -/
noncomputable def condR {α : Type} (c : Prop) (r : Re α) : Re α := open Classical in if c then r else .bad
theorem condR_true {α : Type} {r : Re α} : condR True r = r := if_pos trivial
theorem condR_of {α : Type} {c : Prop} {r : Re α} (h : c) : condR c r = r := if_pos h
noncomputable def condS (c : Prop) (r : SRe) : SRe := open Classical in if c then r else .bad
theorem condS_true {r : SRe} : condS True r = r := if_pos trivial
theorem condS_of {c : Prop} {r : SRe} (h : c) : condS c r = r := if_pos h
theorem condR_bind {α β : Type} {c : Prop} {r : Re α} {k : α → Sto → Re β} : (condR c r).bind k = condR c (r.bind k) := by
  unfold condR
  split <;> rfl
theorem condR_toS {α : Type} {c : Prop} {r : Re α} {k : α → Sto → SRe} : (condR c r).toS ρ k = condS c (r.toS ρ k) := by
  unfold condR condS
  split <;> rfl
theorem condR_condR {α : Type} {c e : Prop} {r : Re α} : condR c (condR e r) = condR (c ∧ e) r := by
  unfold condR
  by_cases h : c <;> by_cases g : e <;> simp [h, g]
theorem hold_cond {c : Prop} {r : SRe} (h : c) (g : Hold r rest P) : Hold (condS c r) rest P := by rw [condS_of h]; exact g
/-! expressions -/
def getV : Option (Option Dv) → Sto → Re Dv
  | some (some d), S => .ok d S
  | _, _ => .bad
theorem getV_some : getV (some (some d)) S = .ok d S := id rfl
theorem ap_eV (i : Nat) : eV i ρ S = getV ρ[i]? S := by
  unfold eV getV
  cases ρ[i]? with
  | none => rfl
  | some x => cases x <;> rfl
theorem ap_eC : eC d ρ S = .ok d S := id rfl
theorem ap_e1 {g : Dv → Sto → Re Dv} {a : Ex} : e1 g a ρ S = (a ρ S).bind g := id rfl
theorem ap_e2 {g : Dv → Dv → Sto → Re Dv} {a b : Ex} : e2 g a b ρ S = (a ρ S).bind fun x S1 => (b ρ S1).bind fun y S2 => g x y S2 := id rfl
theorem ap_aNil : aNil ρ S = .ok [] S := id rfl
theorem ap_aCons {a : Ex} {r : Xs} : aCons a r ρ S = (a ρ S).bind fun x S1 => (r ρ S1).bind fun xs S2 => .ok (x :: xs) S2 := id rfl
theorem ap_eN {g : List Dv → Sto → Re Dv} {a : Xs} : eN g a ρ S = (a ρ S).bind g := id rfl
theorem ap_eCall {n : Nat} {g : Fn} {a : Xs} : eCall n g a ρ S = (a ρ S).bind fun ds S1 => if ds.length = n then g ds S1 else .bad := id rfl
theorem ap_eCallK {n : Nat} {g : List Dv → List Dv → Sto → Re Dv} {a : Xs} : eCallK n g a ρ S = (a ρ S).bind fun ds S1 => if ds.length = n then g [] ds S1 else .bad := id rfl
theorem ap_eMth {c n : Nat} {m : Str} {g : Fn} {a : Ex} {as : Xs} : eMth c m n g a as ρ S = (a ρ S).bind fun d S1 => if isIns c m S1 d = true then (as ρ S1).bind fun ds S2 => if ds.length = n then g (d :: ds) S2 else .bad else .bad := id rfl
theorem ap_eMth0 {c : Nat} {m : Str} {g : Fn} {a : Ex} : eMth0 c m g a ρ S = (a ρ S).bind fun d S1 => if isIns c m S1 d = true then g [d] S1 else .bad := id rfl
theorem ap_eMthK {c n : Nat} {m : Str} {g : List Dv → List Dv → Sto → Re Dv} {a : Ex} {as : Xs} : eMthK c m n g a as ρ S = (a ρ S).bind fun d S1 => if isIns c m S1 d = true then (as ρ S1).bind fun ds S2 => if ds.length = n then g [d] ds S2 else .bad else .bad := id rfl
theorem ap_eM {chk : Dv → Sto → Bool} {g : Dv → List Dv → Sto → Re Dv} {o : Ex} {a : Xs} : eM chk g o a ρ S = (o ρ S).bind fun x S1 => if chk x S1 = true then (a ρ S1).bind fun ys S2 => g x ys S2 else .bad := id rfl
def asB : Dv → Sto → Re Bool
  | .bl b, S => .ok b S
  | _, _ => .bad
theorem asB_bl (b : Bool) : asB (.bl b) S = .ok b S := id rfl
theorem ap_tV {f : Ex} : tV f ρ S = (f ρ S).bind asB := by
  unfold tV
  congr 1
  funext d S'
  cases d <;> rfl
theorem ap_tAnd {a b : Tt} : tAndD a b ρ S = (a ρ S).bind fun c S' => if c = true then b ρ S' else .ok false S' := id rfl
theorem ap_tOr {a b : Tt} : tOrD a b ρ S = (a ρ S).bind fun c S' => if c = true then .ok true S' else b ρ S' := id rfl
theorem ap_tNot {a : Tt} : tNotD a ρ S = (a ρ S).bind fun c S' => .ok (!c) S' := id rfl
theorem ap_tYes : ttYes ρ S = .ok true S := id rfl
theorem ap_eIf {t : Tt} {a b : Ex} : eIf t a b ρ S = (t ρ S).bind fun c S' => if c = true then a ρ S' else b ρ S' := id rfl
def andK (b : Ex) (ρ : En) : Dv → Sto → Re Dv
  | .bl true, S => b ρ S
  | .bl false, S => .ok (.bl false) S
  | _, _ => .bad
def orK (b : Ex) (ρ : En) : Dv → Sto → Re Dv
  | .bl false, S => b ρ S
  | .bl true, S => .ok (.bl true) S
  | _, _ => .bad
theorem andK_bl {b : Ex} {c : Bool} : andK b ρ (.bl c) S = if c = true then b ρ S else .ok (.bl false) S := by cases c <;> rfl
theorem orK_bl {b : Ex} {c : Bool} : orK b ρ (.bl c) S = if c = true then .ok (.bl true) S else b ρ S := by cases c <;> rfl
theorem ap_eAnd {a b : Ex} : eAnd a b ρ S = (a ρ S).bind (andK b ρ) := by
  unfold eAnd
  cases a ρ S with
  | ok x S' =>
    cases x with
    | bl c => cases c <;> rfl
    | _ => rfl
  | _ => rfl
theorem ap_eOr {a b : Ex} : eOr a b ρ S = (a ρ S).bind (orK b ρ) := by
  unfold eOr
  cases a ρ S with
  | ok x S' =>
    cases x with
    | bl c => cases c <;> rfl
    | _ => rfl
  | _ => rfl
theorem ap_uNot {b : Bool} : uNot (.bl b) S = .ok (.bl (!b)) S := id rfl
theorem ap_uNeg {i : Int} : uNeg (.int i) S = .ok (.int (-i)) S := id rfl
theorem ap_xNone : xNone ρ S = .ok none S := id rfl
def asO : Dv → Sto → Re (Option Int)
  | .int i, S => .ok (some i) S
  | _, _ => .bad
theorem asO_int {i : Int} : asO (.int i) S = .ok (some i) S := id rfl
theorem ap_xSome {f : Ex} : xSome f ρ S = (f ρ S).bind asO := by
  unfold xSome
  congr 1
  funext d S'
  cases d <;> rfl
theorem ap_eSl {a : Ex} {lo hi : Xo} : eSl a lo hi ρ S = (a ρ S).bind fun x S1 => (lo ρ S1).bind fun l S2 => (hi ρ S2).bind fun u S3 => oSl x l u S3 := id rfl
def chK (f g : Int → Int → Bool) (c : Ex) (ρ : En) : Dv → Dv → Sto → Re Dv
  | .int i, .int j, S => if f i j = true then (c ρ S).bind (fun z S3 => match z with
      | .int m => .ok (.bl (g j m)) S3
      | _ => .bad) else .ok (.bl false) S
  | _, _, _ => .bad
theorem chK_int {f g : Int → Int → Bool} {c : Ex} {i j : Int} : chK f g c ρ (.int i) (.int j) S = if f i j = true then (c ρ S).bind (oB g (.int j)) else .ok (.bl false) S := by
  show (if f i j = true then (c ρ S).bind (fun z S3 => match z with
      | .int m => .ok (.bl (g j m)) S3
      | _ => .bad) else Re.ok (Dv.bl false) S) = _
  congr 2
  funext d S'
  cases d <;> rfl
theorem ap_eCh {f g : Int → Int → Bool} {a b c : Ex} : eCh f g a b c ρ S = (a ρ S).bind fun x S1 => (b ρ S1).bind fun y S2 => chK f g c ρ x y S2 := by
  unfold eCh
  cases a ρ S with
  | ok x S1 =>
    simp only [Re.bind_ok]
    cases b ρ S1 with
    | ok y S2 =>
      simp only [Re.bind_ok]
      cases x <;> cases y <;> rfl
    | _ => rfl
  | _ => rfl
/-! statements -/
theorem ap_sNil : sNil ρ S = .nx ρ S := id rfl
theorem ap_sBrk : sBrk ρ S = .brk ρ S := id rfl
theorem ap_sCt : sCt ρ S = .ct ρ S := id rfl
theorem ap_sExpr {f : Ex} : sExpr f ρ S = (f ρ S).toS ρ fun _ S' => .nx ρ S' := id rfl
theorem ap_sRet {f : Ex} : sRet f ρ S = (f ρ S).toS ρ fun d S' => .ret d S' := id rfl
theorem ap_sSet {i : Nat} {f : Ex} : sSet i f ρ S = (f ρ S).toS ρ fun d S' => .nx (ρ.set i (some d)) S' := id rfl
theorem ap_sIf {t : Tt} {a b : Sm} : sIf t a b ρ S = (t ρ S).toS ρ fun c S' => if c = true then a ρ S' else b ρ S' := id rfl
theorem ap_sAsg {f : Ex} {g : Gt} : sAsg f g ρ S = (f ρ S).toS ρ fun d S' => optS (g d ρ S') fun ρ' S2 => .nx ρ' S2 := id rfl
def parK (i j : Nat) (ρ : En) : List Dv → Sto → SRe
  | [d, e], S => .nx ((ρ.set i (some d)).set j (some e)) S
  | _, _ => .bad
theorem parK_ok {i j : Nat} : parK i j ρ [x, y] S = .nx ((ρ.set i (some x)).set j (some y)) S := id rfl
theorem ap_sPar {i j : Nat} {f : Xs} : sPar i j f ρ S = (f ρ S).toS ρ (parK i j ρ) := by
  unfold sPar
  congr 1
  funext l S'
  match l with
  | [] => rfl
  | [_] => rfl
  | [_, _] => rfl
  | _ :: _ :: _ :: _ => rfl
theorem ap_sRaise {c : Nat} {f : Ex} : sRaise c f ρ S = (f ρ S).toS ρ fun d S' => .exc c d ρ S' := id rfl
def fldK (c : Nat) (f : Str) (ρ : En) (y : Dv) : Dv → Sto → SRe := fun d S => sFldD c f (eC d) (eC y) ρ S
theorem ap_sFld {c : Nat} {f : Str} {a v : Ex} : sFldD c f a v ρ S = (v ρ S).toS ρ fun y S1 => (a ρ S1).toS ρ (fldK c f ρ y) := id rfl
/-! targets -/
theorem ap_gN {i : Nat} : gN i d ρ S = some (ρ.set i (some d), S) := id rfl
theorem ap_gTp {n : Nat} {g : Gts} {l : List Dv} : gTp n g (.tup l) ρ S = if l.length = n then g l ρ S else none := id rfl
theorem ap_gsNil : gsNil [] ρ S = some (ρ, S) := id rfl
def gsK (r : Gts) (l : List Dv) : Option (En × Sto) → Option (En × Sto)
  | some x => r l x.1 x.2
  | none => none
theorem gsK_some {r : Gts} {l : List Dv} : gsK r l (some (ρ, S)) = r l ρ S := id rfl
theorem gsK_congr {r : Gts} {l : List Dv} {a b : Option (En × Sto)} (h : a = b) : gsK r l a = gsK r l b := by rw [h]
theorem ap_gsCons {g : Gt} {r : Gts} {l : List Dv} : gsCons g r (d :: l) ρ S = gsK r l (g d ρ S) := by
  show (match g d ρ S with | some (ρ', S') => r l ρ' S' | none => none) = _
  cases g d ρ S <;> rfl
theorem gUl_lst {n : Nat} {g : Gts} {l : List Dv} : gUl n g (.lst l) ρ S = if l.length = n then g l ρ S else none := id rfl
theorem ap_gUl {n : Nat} {g : Gts} {l : List Dv} (h : asR S d = some l) (hn : l.length = n) : gUl n g d ρ S = g l ρ S := by
  unfold gUl
  rw [h]
  simp [hn]
def ixK (d : Dv) (ρ : En) (i : Ex) : Re Dv → Option (En × Sto)
  | .ok o S => gIx (eC o) i d ρ S
  | _ => none
theorem ap_gIx {o i : Ex} : gIx o i d ρ S = ixK d ρ i (o ρ S) := by
  unfold ixK gIx eC
  cases o ρ S <;> rfl
theorem ixK_congr {i : Ex} {a b : Re Dv} (h : a = b) : ixK d ρ i a = ixK d ρ i b := by rw [h]
def ixK2 (d : Dv) (ρ : En) (k : Nat) (r : Re Dv) : Option (En × Sto) := match r with
  | .ok (.int j) S2 => match S2[k]? with
    | some (.lst l) => match ixN l.length j with
      | some m => some (ρ, S2.set k (.lst (l.set m d)))
      | none => none
    | _ => none
  | _ => none
theorem ixK2_congr {k : Nat} {a b : Re Dv} (h : a = b) : ixK2 d ρ k a = ixK2 d ρ k b := by rw [h]
theorem ixK_cell {i : Ex} {k : Nat} : ixK d ρ i (.ok (.cell k) S) = ixK2 d ρ k (i ρ S) := by
  unfold ixK ixK2 gIx eC
  (try dsimp only)
  all_goals cases i ρ S with
  | ok a S' => cases a <;> rfl
  | _ => rfl
def putO (d : Dv) (ρ : En) (k : Nat) (j : Int) (S : Sto) : Option Ob → Option (En × Sto)
  | some (.lst l) => (ixN l.length j).map fun m => (ρ, S.set k (.lst (l.set m d)))
  | _ => none
theorem ixK2_int {k : Nat} {j : Int} : ixK2 d ρ k (.ok (.int j) S) = putO d ρ k j S S[k]? := by
  unfold ixK2 putO
  (try dsimp only)
  all_goals cases S[k]? with
  | none => rfl
  | some o =>
    cases o with
    | lst l =>
      dsimp only
      cases ixN l.length j <;> rfl
    | _ => rfl
theorem putO_lst {k : Nat} {j : Int} {l : List Dv} (h0 : 0 ≤ j) (h1 : j < (l.length : Int)) : putO d ρ k j S (some (.lst l)) = some (ρ, S.set k (.lst (l.set j.toNat d))) := by
  show (ixN l.length j).map _ = _
  unfold ixN
  rw [if_pos h0, if_pos h1]
  rfl
theorem putO_0 {k : Nat} {l : List Dv} : putO d ρ k 0 S (some (.lst (x :: l))) = some (ρ, S.set k (.lst (d :: l))) := by rw [putO_lst (by omega) (by simp)]; rfl
theorem putO_1 {k : Nat} {l : List Dv} : putO d ρ k 1 S (some (.lst (x :: y :: l))) = some (ρ, S.set k (.lst (x :: d :: l))) := by rw [putO_lst (by omega) (by rw [List.length_cons, List.length_cons]; omega)]; rfl
theorem putO_2 {k : Nat} {z : Dv} {l : List Dv} : putO d ρ k 2 S (some (.lst (x :: y :: z :: l))) = some (ρ, S.set k (.lst (x :: y :: d :: l))) := by rw [putO_lst (by omega) (by rw [List.length_cons, List.length_cons, List.length_cons]; omega)]; rfl
/-! lists as values -/
theorem asL_lst {l : List Dv} : asL S (.lst l) = some l := id rfl
theorem asR_lst {l : List Dv} : asR S (.lst l) = some l := id rfl
theorem asR_ro {l : List Dv} : asR S (.ro l) = some l := id rfl
theorem asQ_lst {l : List Dv} : asQ S (.lst l) = some l := id rfl
theorem asQ_ro {l : List Dv} : asQ S (.ro l) = some l := id rfl
theorem asQ_tup {l : List Dv} : asQ S (.tup l) = some l := id rfl
theorem asQ_ktup {l : List Dv} : asQ S (.ktup l) = some l := id rfl
def lstO : Option Ob → Option (List Dv)
  | some (.lst l) => some l
  | _ => none
theorem lstO_lst {l : List Dv} : lstO (some (.lst l)) = some l := id rfl
theorem asL_cell {k : Nat} : asL S (.cell k) = lstO S[k]? := by
  show (match S[k]? with | some (.lst l) => some l | _ => none) = _
  cases S[k]? with
  | none => rfl
  | some o => cases o <;> rfl
theorem asR_cell {k : Nat} : asR S (.cell k) = lstO S[k]? := asL_cell
theorem asQ_cell {k : Nat} : asQ S (.cell k) = lstO S[k]? := asL_cell
theorem isL_def : isL d S = (asR S d).isSome := id rfl
/-! operators -/
theorem add_int {i j : Int} : oAdd (.int i) (.int j) S = .ok (.int (i + j)) S := id rfl
theorem oI_int {f : Int → Int → Int} {i j : Int} : oI f (.int i) (.int j) S = .ok (.int (f i j)) S := id rfl
theorem oIc_int {C : Int → Int → Bool} {f : Int → Int → Int} {i j : Int} : oIc C f (.int i) (.int j) S = if C i j = true then .ok (.int (f i j)) S else .bad := id rfl
theorem oB_int {f : Int → Int → Bool} {i j : Int} : oB f (.int i) (.int j) S = .ok (.bl (f i j)) S := id rfl
theorem is_non : oIs .non .non S = .ok (.bl true) S := id rfl
theorem is_int {i : Int} : oIs (.int i) .non S = .ok (.bl false) S := id rfl
theorem is_str {i : Str} : oIs (.str i) .non S = .ok (.bl false) S := id rfl
theorem is_lst {i : List Dv} : oIs (.lst i) .non S = .ok (.bl false) S := id rfl
theorem is_tup {i : List Dv} : oIs (.tup i) .non S = .ok (.bl false) S := id rfl
theorem is_cell {i : Nat} : oIs (.cell i) .non S = .ok (.bl false) S := id rfl
theorem isn_non : oIsNot .non .non S = .ok (.bl false) S := id rfl
theorem isn_int {i : Int} : oIsNot (.int i) .non S = .ok (.bl true) S := id rfl
theorem isn_str {i : Str} : oIsNot (.str i) .non S = .ok (.bl true) S := id rfl
theorem isn_lst {i : List Dv} : oIsNot (.lst i) .non S = .ok (.bl true) S := id rfl
theorem isn_tup {i : List Dv} : oIsNot (.tup i) .non S = .ok (.bl true) S := id rfl
theorem isn_cell {i : Nat} : oIsNot (.cell i) .non S = .ok (.bl true) S := id rfl
theorem sizeLine_is : sizeLine = 16777216 := by first | rfl | decide
theorem mkT_ok {l : List Dv} : mkT l S = condR (l.length ≤ 16777216) (.ok (.tup l) S) := by
  unfold mkT condR
  rw [sizeLine_is]
  split <;> rfl
theorem mkL_ok {l : List Dv} : mkL l S = condR (l.length ≤ 16777216) (.ok (.lst l) S) := by
  unfold mkL condR
  rw [sizeLine_is]
  split <;> rfl
theorem mkC_ok {l : List Dv} : mkC l S = condR (l.length ≤ 16777216) (.ok (.cell S.length) (S ++ [.lst l])) := by
  unfold mkC condR
  rw [sizeLine_is]
  split <;> rfl
theorem add_lst {l m : List Dv} : oAdd (.lst l) (.lst m) S = mkL (l ++ m) S := id rfl
noncomputable def addK (S : Sto) : Option (List Dv) → Option (List Dv) → Re Dv
  | some l, some m => mkC (l ++ m) S
  | _, _ => .bad
theorem addK_ok {l m : List Dv} : addK S (some l) (some m) = mkC (l ++ m) S := id rfl
theorem addC_ap : oAddC d x S = addK S (asL S d) (asL S x) := by
  unfold oAddC addK
  cases asL S d <;> cases asL S x <;> rfl
def lenO (S : Sto) : Option (List Dv) → Re Dv
  | some l => .ok (.int l.length) S
  | none => .bad
theorem lenO_some {l : List Dv} : lenO S (some l) = .ok (.int l.length) S := id rfl
theorem len_cell {k : Nat} : bLen [.cell k] S = lenO S (lstO S[k]?) := by rw [← asQ_cell]; rfl
theorem len_lst {l : List Dv} : bLen [.lst l] S = lenO S (some l) := id rfl
theorem len_tup {l : List Dv} : bLen [.tup l] S = lenO S (some l) := id rfl
theorem len_ktup {l : List Dv} : bLen [.ktup l] S = lenO S (some l) := id rfl
theorem len_ro {l : List Dv} : bLen [.ro l] S = lenO S (some l) := id rfl
theorem bLen_of (h : (asQ S d).isSome = true) : bLen [d] S = lenO S (asQ S d) := by
  unfold bLen
  cases d <;> first | (cases h; done) | rfl
theorem bInt_int {i : Int} : bInt [.int i] S = .ok (.int i) S := id rfl
theorem bInt_bl {b : Bool} : bInt [.bl b] S = .ok (.int (if b = true then 1 else 0)) S := id rfl
theorem bAbs_int {i : Int} : bAbs [.int i] S = .ok (.int (if i < 0 then -i else i)) S := id rfl
theorem bMax_int {i j : Int} : bMax [.int i, .int j] S = .ok (.int (if j > i then j else i)) S := id rfl
theorem bMin_int {i j : Int} : bMin [.int i, .int j] S = .ok (.int (if j < i then j else i)) S := id rfl
def lstK (S : Sto) : Option (List Dv) → Re Dv
  | some l => .ok (.lst l) S
  | none => .bad
def lstCK (S : Sto) : Option (List Dv) → Re Dv
  | some l => .ok (.cell S.length) (S ++ [.lst l])
  | none => .bad
def tupK (S : Sto) : Option (List Dv) → Re Dv
  | some l => .ok (.tup l) S
  | none => .bad
def ktupK (S : Sto) : Option (List Dv) → Re Dv
  | some l => .ok (.ktup l) S
  | none => .bad
theorem lstK_some {l : List Dv} : lstK S (some l) = .ok (.lst l) S := id rfl
theorem lstCK_some {l : List Dv} : lstCK S (some l) = .ok (.cell S.length) (S ++ [.lst l]) := id rfl
theorem tupK_some {l : List Dv} : tupK S (some l) = .ok (.tup l) S := id rfl
theorem ktupK_some {l : List Dv} : ktupK S (some l) = .ok (.ktup l) S := id rfl
theorem bList_of : bList [d] S = lstK S (asQ S d) := by
  unfold bList lstK
  dsimp only
  cases asQ S d <;> rfl
theorem bListC_of : bListC [d] S = lstCK S (asQ S d) := by
  unfold bListC lstCK
  dsimp only
  cases asQ S d <;> rfl
theorem bTuple_tup {l : List Dv} : bTuple [.tup l] S = .ok (.tup l) S := id rfl
theorem tuple_cell {k : Nat} : bTuple [.cell k] S = tupK S (lstO S[k]?) := by rw [← asR_cell]; rfl
theorem tuple_lst {l : List Dv} : bTuple [.lst l] S = tupK S (some l) := id rfl
theorem tuple_ro {l : List Dv} : bTuple [.ro l] S = tupK S (some l) := id rfl
theorem tuple_ktup {l : List Dv} : bTuple [.ktup l] S = .ok (.ktup l) S := id rfl
theorem bTuple_of (h : (asR S d).isSome = true) : bTuple [d] S = tupK S (asR S d) := by
  unfold bTuple
  cases d <;> first | (cases h; done) | rfl
theorem bTupleK_of : bTupleK [d] S = ktupK S (asR S d) := by
  unfold bTupleK ktupK
  dsimp only
  cases asR S d <;> rfl
def appO (S : Sto) (k : Nat) (y : Dv) : Option Ob → Re Dv
  | some (.lst l) => if l.length < sizeLine then .ok .non (S.set k (.lst (l ++ [y]))) else .bad
  | _ => .bad
theorem mApp_ap {k : Nat} : mApp (.cell k) [y] S = appO S k y S[k]? := by
  unfold mApp appO
  (try dsimp only)
  all_goals cases S[k]? with
  | none => rfl
  | some o => cases o <;> rfl
theorem appO_lst {k : Nat} {l : List Dv} : appO S k y (some (.lst l)) = condR (l.length < 16777216) (.ok .non (S.set k (.lst (l ++ [y])))) := by
  show (if l.length < sizeLine then _ else _) = _
  unfold condR
  rw [sizeLine_is]
  split <;> rfl
def popO (S : Sto) (k : Nat) (i : Int) : Option Ob → Re Dv
  | some (.lst l) => if 0 ≤ i ∧ i < 2 ^ 63 then (match l[i.toNat]? with
      | some y => .ok y (S.set k (.lst (l.eraseIdx i.toNat)))
      | none => .bad) else .bad
  | _ => .bad
theorem mPopAt_ap {k : Nat} {i : Int} : mPopAt (.cell k) [.int i] S = popO S k i S[k]? := by
  unfold mPopAt popO
  (try dsimp only)
  all_goals cases S[k]? with
  | none => rfl
  | some o => cases o <;> rfl
theorem erase_map {α β : Type} (f : α → β) : ∀ (l : List α) (i : Nat), (l.map f).eraseIdx i = (l.eraseIdx i).map f
  | [], _ => rfl
  | _ :: _, 0 => rfl
  | a :: r, i + 1 => by
    show f a :: (r.map f).eraseIdx i = f a :: (r.eraseIdx i).map f
    rw [erase_map f r i]
theorem popO_map {α : Type} {f : α → Dv} {l : List α} {k : Nat} {i : Nat} {y : α} (h : l[i]? = some y) (hi : i < 1000000) : popO S k i (some (.lst (l.map f))) = .ok (f y) (S.set k (.lst ((l.eraseIdx i).map f))) := by
  unfold popO
  dsimp only
  rw [if_pos ⟨by omega, by omega⟩, Int.toNat_natCast, List.getElem?_map, h]
  rw [erase_map]
  rfl
theorem mulL_2 {l : List Dv} : oMulL (.lst l) (.int 2) S = condR (l.length * 2 ≤ 16777216) (.ok (.lst (l ++ l)) S) := by
  show (if 0 ≤ (2 : Int) ∧ (2 : Int) < 1000000 ∧ l.length * 2 ≤ sizeLine then Re.ok (Dv.lst (l ++ (l ++ []))) S else .bad) = _
  unfold condR
  rw [List.append_nil, sizeLine_is]
  by_cases h : l.length * 2 ≤ 16777216
  · rw [if_pos h, if_pos ⟨by omega, by omega, h⟩]
  · rw [if_neg h, if_neg fun z => h z.2.2]
/-! indexes -/
def ixO (i : Int) (S : Sto) : Option (List Dv) → Re Dv
  | some l => match atI l i with
    | some x => .ok x S
    | none => .bad
  | none => .bad
def someR (S : Sto) : Option Dv → Re Dv
  | some x => .ok x S
  | none => .bad
theorem someR_ok : someR S (some d) = .ok d S := id rfl
theorem ixO_some {i : Int} {l : List Dv} : ixO i S (some l) = someR S (atI l i) := by
  show (match atI l i with | some x => Re.ok x S | none => .bad) = _
  cases atI l i <;> rfl
theorem ix_cell {i : Int} {k : Nat} : oIx (.cell k) (.int i) S = ixO i S (lstO S[k]?) := by rw [← asQ_cell]; rfl
theorem ix_lst {i : Int} {l : List Dv} : oIx (.lst l) (.int i) S = ixO i S (some l) := id rfl
theorem ix_tup {i : Int} {l : List Dv} : oIx (.tup l) (.int i) S = ixO i S (some l) := id rfl
theorem ix_ktup {i : Int} {l : List Dv} : oIx (.ktup l) (.int i) S = ixO i S (some l) := id rfl
theorem ix_ro {i : Int} {l : List Dv} : oIx (.ro l) (.int i) S = ixO i S (some l) := id rfl
theorem ix_of {i : Int} (h : (asQ S d).isSome = true) : oIx d (.int i) S = ixO i S (asQ S d) := by
  unfold oIx
  cases d <;> first | (cases h; done) | rfl
theorem sl_tup {l : List Dv} {lo hi : Option Int} : oSl (.tup l) lo hi S = .ok (.tup (cutD l lo hi)) S := id rfl
theorem sl_lst {l : List Dv} {lo hi : Option Int} : oSl (.lst l) lo hi S = .ok (.lst (cutD l lo hi)) S := id rfl
def slK (lo hi : Option Int) (S : Sto) : Option (List Dv) → Re Dv
  | some l => .ok (.lst (cutD l lo hi)) S
  | none => .bad
theorem slK_some {lo hi : Option Int} {l : List Dv} : slK lo hi S (some l) = .ok (.lst (cutD l lo hi)) S := id rfl
theorem sl_cell {k : Nat} {lo hi : Option Int} : oSl (.cell k) lo hi S = slK lo hi S (lstO S[k]?) := by
  rw [← asR_cell]
  show (match asR S (.cell k) with | some l => Re.ok (Dv.lst (cutD l lo hi)) S | none => .bad) = _
  cases asR S (.cell k) <;> rfl
theorem cut_take {α : Type} {l : List α} {n : Nat} : cutD l none (some (n : Int)) = l.take n := by
  unfold cutD
  rw [HT.sIx_none, HT.sIx_nat, List.drop_zero, Nat.sub_zero]
  by_cases h : n ≤ l.length
  · rw [Nat.min_eq_left h]
  · rw [Nat.min_eq_right (by omega), List.take_of_length_le (Nat.le_refl _), List.take_of_length_le (by omega)]
theorem cut_drop {α : Type} {l : List α} {n : Nat} : cutD l (some (n : Int)) none = l.drop n := by
  unfold cutD
  rw [HT.sIx_none, HT.sIx_nat]
  by_cases h : n ≤ l.length
  · rw [Nat.min_eq_left h, List.take_of_length_le (by rw [List.length_drop]; omega)]
  · rw [Nat.min_eq_right (by omega), List.drop_of_length_le (Nat.le_refl _), List.drop_of_length_le (by omega), List.take_nil]
theorem take_map {α : Type} {f : α → Dv} {l : List α} {n : Nat} : (l.map f).take n = (l.take n).map f := List.map_take.symm
theorem drop_map {α : Type} {f : α → Dv} {l : List α} {n : Nat} : (l.map f).drop n = (l.drop n).map f := List.map_drop.symm
/-- the item at a number -/
def nth' {α : Type} [Inhabited α] (l : List α) (i : Int) : α := l[i.toNat]?.getD default
theorem atI_nat {α : Type} {l : List α} {i : Int} {x : α} (h0 : 0 ≤ i) (h : l[i.toNat]? = some x) : atI l i = some x := by
  have hlt := (List.getElem?_eq_some_iff.mp h).1
  unfold atI ixN
  rw [if_pos h0, if_pos (by omega), Option.bind_some, h]
theorem atI_map {α : Type} [Inhabited α] {f : α → Dv} {l : List α} {i : Int} (h0 : 0 ≤ i) (h1 : i < (l.length : Int)) : atI (l.map f) i = some (f (nth' l i)) := by
  refine atI_nat h0 ?_
  have h : i.toNat < l.length := by omega
  rw [List.getElem?_map]
  unfold nth'
  rw [List.getElem?_eq_getElem h]
  rfl
theorem ixN_nat {n : Nat} {i : Int} (h0 : 0 ≤ i) (h : i < n) : ixN n i = some i.toNat := by
  unfold ixN
  rw [if_pos h0, if_pos h]
theorem atI_0 {α : Type} {x : α} {l : List α} : atI (x :: l) 0 = some x := atI_nat (by omega) rfl
theorem atI_1 {α : Type} {x y : α} {l : List α} : atI (x :: y :: l) 1 = some y := atI_nat (by omega) rfl
theorem atI_2 {α : Type} {x y z : α} {l : List α} : atI (x :: y :: z :: l) 2 = some z := atI_nat (by omega) rfl
theorem atI_3 {α : Type} {x y z w : α} {l : List α} : atI (x :: y :: z :: w :: l) 3 = some w := atI_nat (by omega) rfl
/-! comprehensions -/
theorem wipe_nil : wipeE ρ [] = ρ := id rfl
theorem wipe_cons {v : Nat} {vs : List Nat} : wipeE ρ (v :: vs) = (wipeE ρ vs).set v none := id rfl
theorem noexc_k {α : Type} (a : α) : noexc (Re.ok a S) = .ok a S := id rfl
theorem noexc_c {α : Type} {c : Prop} {r : Re α} : noexc (condR c r) = condR c (noexc r) := by
  unfold condR
  split <;> rfl
def trnK (t : Tt) (e : Ex) : Option (En × Sto) → Re (Option Dv)
  | none => .bad
  | some (ρ1, S1) => (noexc (t ρ1 S1)).bind fun c S2 => if c = true then (noexc (e ρ1 S2)).bind fun y S3 => .ok (some y) S3 else .ok none S2
theorem trnK_congr {t : Tt} {e : Ex} {a b : Option (En × Sto)} (h : a = b) : trnK t e a = trnK t e b := by rw [h]
theorem ap_turn {g : Gt} {t : Tt} {e : Ex} : turnD g t e ρ d S = trnK t e (g d ρ S) := by
  show (match g d ρ S with | none => Re.bad | some (ρ1, S1) => _) = _
  cases g d ρ S <;> rfl
theorem trnK_some {t : Tt} {e : Ex} : trnK t e (some (ρ, S)) = (noexc (t ρ S)).bind fun c S2 => if c = true then (noexc (e ρ S2)).bind fun y S3 => .ok (some y) S3 else .ok none S2 := id rfl
open Classical in
noncomputable def lcK (g : Gt) (t : Tt) (e : Ex) (ρ : En) : Wk → Sto → Re (List Dv) := fun x S1 => if x.2 S1 ∧ x.1.length ≤ sizeLine then lcL (turnD g t e ρ) x.2 x.1 S1 else .bad
theorem ap_lcD {f : It'} {g : Gt} {t : Tt} {e : Ex} {vs : List Nat} : lcD f g t e vs ρ S = (f ρ S).bind (lcK g t e (wipeE ρ vs)) := id rfl
theorem ap_eLc {f : It'} {g : Gt} {t : Tt} {e : Ex} {vs : List Nat} : eLc f g t e vs ρ S = (lcD f g t e vs ρ S).bind fun l S => .ok (.lst l) S := id rfl
theorem ap_eLcC {f : It'} {g : Gt} {t : Tt} {e : Ex} {vs : List Nat} : eLcC f g t e vs ρ S = (lcD f g t e vs ρ S).bind fun l S => .ok (.cell S.length) (S ++ [.lst l]) := id rfl
/-- a comprehension over typed items that changes nothing -/
def okAt {β : Type} (r : Re β) (S : Sto) : Prop := ∃ o, r = .ok o S
def valR {β : Type} (b : β) : Re β → β
  | .ok o _ => o
  | _ => b
open Classical in
noncomputable def lcT {α : Type} (b : Dv → Sto → Re (Option Dv)) (chk : Sto → Prop) (enc : α → Dv) (xs : List α) (G : α → Re (Option Dv)) (S : Sto) : Re (List Dv) :=
  if ∀ x ∈ xs, okAt (G x) S then .ok (xs.filterMap fun x => valR none (G x)) S else if ∀ x ∈ xs, okAt (G x) S ∨ G x = .bad then .bad else lcL b chk (xs.map enc) S
theorem lcL_bad {b : Dv → Sto → Re (Option Dv)} {chk : Sto → Prop} (hc : chk S) : ∀ l : List Dv, (∀ d ∈ l, okAt (b d S) S ∨ b d S = .bad) → (∃ d ∈ l, b d S = .bad) → lcL b chk l S = .bad
  | [], _, ⟨_, h, _⟩ => by cases h
  | d :: r, h, ⟨x, hx, e⟩ => by
    unfold lcL
    rcases h d List.mem_cons_self with ⟨o, ho⟩ | hb
    · rw [ho, Re.bind_ok, if_pos hc]
      rcases List.mem_cons.mp hx with rfl | hx
      · rw [ho] at e; cases e
      · rw [lcL_bad hc r (fun y hy => h y (List.mem_cons_of_mem _ hy)) ⟨x, hx, e⟩]; rfl
    · rw [hb]; rfl
theorem lcK_typed {α : Type} {g : Gt} {t : Tt} {e : Ex} {chk : Sto → Prop} {enc : α → Dv} {xs : List α} : lcK g t e ρ (xs.map enc, chk) S = condR (chk S ∧ xs.length ≤ 16777216) (lcT (turnD g t e ρ) chk enc xs (fun x => turnD g t e ρ (enc x) S) S) := by
  unfold lcK lcT condR
  rw [List.length_map, ← sizeLine_is]
  by_cases hcl : chk S ∧ xs.length ≤ sizeLine
  · have hc := hcl.1
    rw [if_pos hcl, if_pos hcl]
    split
    · rename_i h
      rw [lcL_pure (G := fun d => valR none (turnD g t e ρ d S)) hc, List.filterMap_map]
      · rfl
      · intro d hd
        obtain ⟨x, hx, rfl⟩ := List.mem_map.mp hd
        obtain ⟨o, ho⟩ := h x hx
        have ho : turnD g t e ρ (enc x) S = .ok o S := ho
        rw [ho]
        rfl
    · rename_i h1
      split
      · rename_i h2
        refine lcL_bad hc _ (fun d hd => ?_) ?_
        · obtain ⟨x, hx, rfl⟩ := List.mem_map.mp hd
          exact h2 x hx
        · refine Classical.byContradiction fun z => h1 fun x hx => ?_
          rcases h2 x hx with h | h
          · exact h
          · exact absurd ⟨enc x, List.mem_map.mpr ⟨x, hx, rfl⟩, h⟩ z
      · rfl
  · rw [if_neg hcl, if_neg hcl]
theorem lcT_ok {α : Type} {b : Dv → Sto → Re (Option Dv)} {chk : Sto → Prop} {enc : α → Dv} {xs : List α} {F : α → Option Dv} : lcT b chk enc xs (fun x => .ok (F x) S) S = .ok (xs.filterMap F) S := by
  unfold lcT
  rw [if_pos fun x _ => ⟨_, rfl⟩]
  rfl
theorem lcT_by {α : Type} {b : Dv → Sto → Re (Option Dv)} {chk : Sto → Prop} {enc : α → Dv} {xs : List α} {G : α → Re (Option Dv)} (F : α → Option Dv) (h : ∀ x ∈ xs, G x = .ok (F x) S) : lcT b chk enc xs G S = .ok (xs.filterMap F) S := by
  unfold lcT
  rw [if_pos fun x hx => ⟨_, h x hx⟩]
  congr 1
  have : ∀ l : List α, (∀ x ∈ l, x ∈ xs) → (l.filterMap fun x => valR none (G x)) = l.filterMap F := by
    intro l
    induction l with
    | nil => intro _; rfl
    | cons a r ih =>
      intro hm
      rw [List.filterMap_cons, List.filterMap_cons, h a (hm a List.mem_cons_self), ih fun x hx => hm x (List.mem_cons_of_mem _ hx)]
      rfl
  exact this xs fun _ h => h
theorem lcT_cond {α : Type} {b : Dv → Sto → Re (Option Dv)} {chk : Sto → Prop} {enc : α → Dv} {xs : List α} {F : α → Option Dv} {c : α → Prop} : lcT b chk enc xs (fun x => condR (c x) (.ok (F x) S)) S = condR (∀ x ∈ xs, c x) (.ok (xs.filterMap F) S) := by
  have e1 : ∀ x, c x → condR (c x) (Re.ok (F x) S) = .ok (F x) S := fun x h => condR_of h
  have e2 : ∀ x, ¬c x → condR (c x) (Re.ok (F x) S) = .bad := fun x h => if_neg h
  by_cases h : ∀ x ∈ xs, c x
  · rw [condR_of h]
    unfold lcT
    rw [if_pos fun x hx => ⟨_, e1 x (h x hx)⟩]
    congr 1
    have : ∀ l : List α, (∀ x ∈ l, c x) → (l.filterMap fun x => valR none (condR (c x) (Re.ok (F x) S))) = l.filterMap F := by
      intro l
      induction l with
      | nil => intro _; rfl
      | cons a r ih =>
        intro hm
        rw [List.filterMap_cons, List.filterMap_cons, e1 a (hm a List.mem_cons_self), ih fun x hx => hm x (List.mem_cons_of_mem _ hx)]
        rfl
    exact this xs h
  · unfold lcT
    rw [if_neg, if_pos]
    · exact (if_neg h).symm
    · intro x _
      by_cases hc : c x
      · exact .inl ⟨_, e1 x hc⟩
      · exact .inr (e2 x hc)
    · intro z
      refine h fun x hx => ?_
      by_cases hc : c x
      · exact hc
      · obtain ⟨o, ho⟩ := z x hx
        have ho : condR (c x) (Re.ok (F x) S) = .ok o S := ho
        rw [e2 x hc] at ho
        cases ho
/-- a comprehension that draws: the mill alone changes -/
theorem lcT_draw {α β μ : Type} {b : Dv → Sto → Re (Option Dv)} {chk : Sto → Prop} {enc : α → Dv} {xs : List α} {G : α → Re (Option Dv)} {X : Re (List Dv)} (St : μ → Sto) (ok : μ → Prop) (Q : β → Prop) (f : β → Dv) {m : μ} (hX : lcT b chk enc xs G (St m) = X) (hm : ok m)
    (hc : ∀ m, ok m → chk (St m)) (hG : ∀ x ∈ xs, G x = b (enc x) (St m)) (hb : ∀ x m, x ∈ xs → ok m → ∃ y m', Q y ∧ ok m' ∧ b (enc x) (St m) = .ok (some (f y)) (St m')) : ∃ (ys : List β) (m' : μ), ys.length = xs.length ∧ (∀ y ∈ ys, Q y) ∧ ok m' ∧ X = .ok (ys.map f) (St m') := by
  have run : ∀ l : List α, (∀ x ∈ l, x ∈ xs) → ∀ m, ok m → ∃ (ys : List β) (m' : μ), ys.length = l.length ∧ (∀ y ∈ ys, Q y) ∧ ok m' ∧ lcL b chk (l.map enc) (St m) = .ok (ys.map f) (St m') := by
    intro l
    induction l with
    | nil => exact fun _ m hm => ⟨[], m, rfl, (fun _ h => nomatch h), hm, rfl⟩
    | cons x r ih =>
      intro hs m hm
      obtain ⟨y, m1, h1, h2, h3⟩ := hb x m (hs x List.mem_cons_self) hm
      obtain ⟨ys, m2, g1, g2, g3, g4⟩ := ih (fun z hz => hs z (List.mem_cons_of_mem _ hz)) m1 h2
      refine ⟨y :: ys, m2, by rw [List.length_cons, List.length_cons, g1], fun z hz => ?_, g3, ?_⟩
      · rcases List.mem_cons.mp hz with rfl | hz
        · exact h1
        · exact g2 z hz
      · rw [List.map_cons]
        unfold lcL
        rw [h3, Re.bind_ok, if_pos (hc m1 h2), g4]
        rfl
  have e : lcT b chk enc xs G (St m) = lcL b chk (xs.map enc) (St m) := by
    have hcm := hc m hm
    have ev : ∀ x ∈ xs, ∀ o, G x = .ok o (St m) → b (enc x) (St m) = .ok o (St m) := fun x hx o h => by rw [← hG x hx, h]
    unfold lcT
    split
    · rename_i h
      rw [lcL_pure (G := fun d => valR none (b d (St m))) hcm, List.filterMap_map]
      · congr 1
        have : ∀ l : List α, (∀ x ∈ l, x ∈ xs) → (l.filterMap fun x => valR none (G x)) = l.filterMap ((fun d => valR none (b d (St m))) ∘ enc) := by
          intro l
          induction l with
          | nil => intro _; rfl
          | cons a r ih => intro hs; rw [List.filterMap_cons, List.filterMap_cons, hG a (hs a List.mem_cons_self), ih fun z hz => hs z (List.mem_cons_of_mem _ hz)]; rfl
        exact this xs fun _ h => h
      · intro d hd
        obtain ⟨x, hx, rfl⟩ := List.mem_map.mp hd
        obtain ⟨o, ho⟩ := h x hx
        rw [ev x hx o ho]
        rfl
    · rename_i h1
      split
      · rename_i h2
        refine (lcL_bad hcm _ (fun d hd => ?_) ?_).symm
        · obtain ⟨x, hx, rfl⟩ := List.mem_map.mp hd
          rw [← hG x hx]
          exact h2 x hx
        · refine Classical.byContradiction fun z => h1 fun x hx => ?_
          rcases h2 x hx with h | h
          · exact h
          · exact absurd ⟨enc x, List.mem_map.mpr ⟨x, hx, rfl⟩, by rw [← hG x hx]; exact h⟩ z
      · rfl
  obtain ⟨ys, m', h1, h2, h3, h4⟩ := run xs (fun _ h => h) m hm
  exact ⟨ys, m', h1, h2, h3, by rw [← hX, e, h4]⟩
theorem always_is : always S = True := eq_true trivial
theorem ite_ok {β : Type} {c : Prop} [Decidable c] {a b : β} : (if c then Re.ok a S else Re.ok b S) = Re.ok (if c then a else b) S := by split <;> rfl
theorem ite_int {c : Prop} [Decidable c] {a b : Int} : (if c then Dv.int a else Dv.int b) = Dv.int (if c then a else b) := by split <;> rfl
theorem ite_bl {c : Prop} [Decidable c] {a b : Bool} : (if c then Dv.bl a else Dv.bl b) = Dv.bl (if c then a else b) := by split <;> rfl
theorem fm_int {α : Type} {xs : List α} {h : α → Int} : (xs.filterMap fun x => some (Dv.int (h x))) = (xs.map h).map Dv.int := by
  rw [List.map_map]
  exact congrFun List.filterMap_eq_map' xs
theorem fm_bl {α : Type} {xs : List α} {h : α → Bool} : (xs.filterMap fun x => some (Dv.bl (h x))) = (xs.map h).map Dv.bl := by
  rw [List.map_map]
  exact congrFun List.filterMap_eq_map' xs
theorem fm_str {α : Type} {xs : List α} {h : α → Str} : (xs.filterMap fun x => some (Dv.str (h x))) = (xs.map h).map Dv.str := by
  rw [List.map_map]
  exact congrFun List.filterMap_eq_map' xs
theorem fm_some {α : Type} {xs : List α} {h : α → Dv} : (xs.filterMap fun x => some (h x)) = xs.map h := congrFun List.filterMap_eq_map' xs
theorem fm_if {α : Type} {xs : List α} {h : α → Dv} {c : α → Prop} [DecidablePred c] : (xs.filterMap fun x => if c x then some (h x) else none) = (xs.filter fun x => decide (c x)).map h := by
  induction xs with
  | nil => rfl
  | cons a r ih =>
    by_cases q : c a <;> simp [q, ih]
/-! walks -/
theorem ap_iSeq {f : Ex} : iSeq f ρ S = (f ρ S).bind itD := id rfl
theorem it_lst {l : List Dv} : itD (.lst l) S = .ok (l, always) S := id rfl
theorem it_ro {l : List Dv} : itD (.ro l) S = .ok (l, always) S := id rfl
theorem it_tup {l : List Dv} : itD (.tup l) S = .ok (l, always) S := id rfl
theorem it_ktup {l : List Dv} : itD (.ktup l) S = .ok (l, always) S := id rfl
def itO (j : Nat) (S : Sto) : Option Ob → Re Wk
  | some (.lst l) => .ok (l, fun S' => S'[j]? = some (.lst l)) S
  | _ => .bad
theorem itO_lst {j : Nat} {l : List Dv} : itO j S (some (.lst l)) = .ok (l, fun S' => S'[j]? = some (.lst l)) S := id rfl
theorem it_cell {j : Nat} : itD (.cell j) S = itO j S S[j]? := by
  show (match S[j]? with | some (.lst l) => Re.ok (l, fun S' => S'[j]? = some (Ob.lst l)) S | _ => .bad) = _
  cases S[j]? with
  | none => rfl
  | some o => cases o <;> rfl
/-! any, all -/
theorem blsD_is : ∀ l : List Bool, blsD (l.map Dv.bl) = some l
  | [] => rfl
  | a :: r => by rw [List.map_cons, blsD, blsD_is r]; rfl
theorem intsD_is : ∀ l : List Int, intsD (l.map Dv.int) = some l
  | [] => rfl
  | a :: r => by rw [List.map_cons, intsD, intsD_is r]; rfl
theorem any_lst {l : List Bool} : bAny [.lst (l.map Dv.bl)] S = .ok (.bl (l.any id)) S := by
  unfold bAny
  dsimp only
  rw [asR_lst, Option.bind_some, blsD_is]
theorem all_lst {l : List Bool} : bAll [.lst (l.map Dv.bl)] S = .ok (.bl (l.all id)) S := by
  unfold bAll
  dsimp only
  rw [asR_lst, Option.bind_some, blsD_is]
theorem any_map' {α : Type} {l : List α} {h : α → Bool} : (l.map h).any id = l.any h := by rw [List.any_map]; rfl
theorem all_map' {α : Type} {l : List α} {h : α → Bool} : (l.map h).all id = l.all h := by rw [List.all_map]; rfl
/-! stores -/
theorem push_len {T : Sto} : (S ++ T).length = S.length + T.length := List.length_append
theorem push_push {T U : Sto} : S ++ T ++ U = S ++ (T ++ U) := List.append_assoc _ _ _
theorem get_0 {a : Ob} {T : Sto} : (S ++ a :: T)[S.length]? = some a := by simp
theorem get_1 {a b : Ob} {T : Sto} : (S ++ a :: b :: T)[S.length + 1]? = some b := by simp
theorem get_2 {a b c : Ob} {T : Sto} : (S ++ a :: b :: c :: T)[S.length + 2]? = some c := by simp
theorem set_0 {a b : Ob} {T : Sto} : (S ++ a :: T).set S.length b = S ++ b :: T := by simp
theorem set_1 {a b c : Ob} {T : Sto} : (S ++ a :: b :: T).set (S.length + 1) c = S ++ a :: c :: T := by simp
theorem set_2 {a b c e : Ob} {T : Sto} : (S ++ a :: b :: c :: T).set (S.length + 2) e = S ++ a :: b :: e :: T := by simp
theorem set_len {k : Nat} {a : Ob} : (S.set k a).length = S.length := List.length_set
theorem set_set {k : Nat} {a b : Ob} : (S.set k a).set k b = S.set k b := List.set_set ..
theorem gets_0 {k : Nat} {m a : Ob} {T : Sto} : (S.set k m ++ a :: T)[S.length]? = some a := by
  have := get_0 (S := S.set k m) (a := a) (T := T)
  rwa [List.length_set] at this
theorem gets_1 {k : Nat} {m a b : Ob} {T : Sto} : (S.set k m ++ a :: b :: T)[S.length + 1]? = some b := by
  have := get_1 (S := S.set k m) (a := a) (b := b) (T := T)
  rwa [List.length_set] at this
theorem gets_2 {k : Nat} {m a b c : Ob} {T : Sto} : (S.set k m ++ a :: b :: c :: T)[S.length + 2]? = some c := by
  have := get_2 (S := S.set k m) (a := a) (b := b) (c := c) (T := T)
  rwa [List.length_set] at this
theorem sets_0 {k : Nat} {m a b : Ob} {T : Sto} : (S.set k m ++ a :: T).set S.length b = S.set k m ++ b :: T := by
  have := set_0 (S := S.set k m) (a := a) (b := b) (T := T)
  rwa [List.length_set] at this
theorem sets_1 {k : Nat} {m a b c : Ob} {T : Sto} : (S.set k m ++ a :: b :: T).set (S.length + 1) c = S.set k m ++ a :: c :: T := by
  have := set_1 (S := S.set k m) (a := a) (b := b) (c := c) (T := T)
  rwa [List.length_set] at this
theorem sets_2 {k : Nat} {m a b c e : Ob} {T : Sto} : (S.set k m ++ a :: b :: c :: T).set (S.length + 2) e = S.set k m ++ a :: b :: e :: T := by
  have := set_2 (S := S.set k m) (a := a) (b := b) (c := c) (e := e) (T := T)
  rwa [List.length_set] at this
theorem get_app {n : Nat} {T : Sto} : (S ++ T)[S.length + n]? = T[n]? := by
  rw [List.getElem?_append_right (by omega), Nat.add_sub_cancel_left]
theorem set_app {n : Nat} {a : Ob} {T : Sto} : (S ++ T).set (S.length + n) a = S ++ T.set n a := by
  rw [List.set_append_right _ _ (by omega), Nat.add_sub_cancel_left]
theorem get_aft {k n : Nat} {m : Ob} {T : Sto} : (S.set k m ++ T)[S.length + n]? = T[n]? := by
  rw [List.getElem?_append_right (by rw [List.length_set]; omega), List.length_set, Nat.add_sub_cancel_left]
theorem get_aft0 {k : Nat} {m : Ob} {T : Sto} : (S.set k m ++ T)[S.length]? = T[0]? := get_aft (n := 0)
theorem set_aft {k n : Nat} {m a : Ob} {T : Sto} : (S.set k m ++ T).set (S.length + n) a = S.set k m ++ T.set n a := by
  rw [List.set_append_right _ _ (by rw [List.length_set]; omega), List.length_set, Nat.add_sub_cancel_left]
theorem set_aft0 {k : Nat} {m a : Ob} {T : Sto} : (S.set k m ++ T).set S.length a = S.set k m ++ T.set 0 a := set_aft (n := 0)
theorem get_old {T : Sto} {k : Nat} (h : k < S.length) : (S ++ T)[k]? = S[k]? := List.getElem?_append_left h
theorem get_set {k : Nat} {a : Ob} (h : k < S.length) : (S.set k a)[k]? = some a := List.getElem?_set_self h
theorem get_ne {k j : Nat} {a : Ob} (h : k ≠ j) : (S.set k a)[j]? = S[j]? := List.getElem?_set_ne h
end
end DL
namespace DL
theorem fz_ex {n : Nat} {f : Sm} {ds : List Dv} {S : Sto} (Q : Re Dv → Prop) (h : Hold (f (startD n ds) S) [] (fun q => Q (fzR S q.toR))) : Q (fz (runD n f) ds S) := h
theorem run_ex {n : Nat} {f : Sm} {ds : List Dv} {S : Sto} (Q : Re Dv → Prop) (h : Hold (f (startD n ds) S) [] (fun q => Q q.toR)) : Q (runD n f ds S) := h
theorem fz_hold {n : Nat} {f : Sm} {ds : List Dv} {S : Sto} {r : Re Dv} (h : Hold (f (startD n ds) S) [] (fun q => fzR S q.toR = r)) : fz (runD n f) ds S = r := h
end DL
/-! Typed data: how it compares, shows, sorts. -/
namespace DL
open PySem PySem.Spec PyProof.Rows L2
/-- a way to write typed things as data -/
class Enc {α : Type} (f : α → Dv) where
  g : α → PyData
  dep : Nat
  py : ∀ a, pyP (f a) = some (g a)
  lay : ∀ a, (g a).canLay0 = true
  depth : ∀ a, (g a).depth ≤ dep
  eqv : ∀ a b, PyData.eqv (g a) (g b) = true ↔ a = b
  nstr : ∀ a b, oEqF id (f a) (f b) [] = oEqD id (f a) (f b) [] 
mutual
theorem toPy_of {S : Sto} : ∀ {d : Dv} {p : PyData}, pyP d = some p → toPy S d = some p
  | .non, _, h => by rw [pyP] at h; rw [toPy]; exact h
  | .bl _, _, h => by rw [pyP] at h; rw [toPy]; exact h
  | .int _, _, h => by rw [pyP] at h; rw [toPy]; exact h
  | .str _, _, h => by rw [pyP] at h; rw [toPy]; exact h
  | .tup l, _, h => by
    rw [pyP, Option.map_eq_some_iff] at h
    obtain ⟨q, h, rfl⟩ := h
    rw [toPy, toPys_of h]; rfl
  | .ktup l, _, h => by
    rw [pyP, Option.map_eq_some_iff] at h
    obtain ⟨q, h, rfl⟩ := h
    rw [toPy, toPys_of h]; rfl
  | .lst l, _, h => by
    rw [pyP, Option.map_eq_some_iff] at h
    obtain ⟨q, h, rfl⟩ := h
    rw [toPy, toPys_of h]; rfl
  | .ro l, _, h => by
    rw [pyP, Option.map_eq_some_iff] at h
    obtain ⟨q, h, rfl⟩ := h
    rw [toPy, toPys_of h]; rfl
  | .ins _ _, _, h => by rw [pyP] at h; cases h
  | .dic _, _, h => by rw [pyP] at h; cases h
  | .cell _, _, h => by rw [pyP] at h; cases h
  | .con _, _, h => by rw [pyP] at h; cases h
  | .exn _ _ _ _, _, h => by rw [pyP] at h; cases h
  | .cls _, _, h => by rw [pyP] at h; cases h
theorem toPys_of {S : Sto} : ∀ {d : List Dv} {p : List PyData}, pyPs d = some p → toPys S d = some p
  | [], _, h => by rw [pyPs] at h; rw [toPys]; exact h
  | d :: r, _, h => by
    rw [pyPs, Option.bind_eq_some_iff] at h
    obtain ⟨q, h1, h⟩ := h
    rw [Option.map_eq_some_iff] at h
    obtain ⟨qs, h2, rfl⟩ := h
    rw [toPys, toPy_of h1, toPys_of h2]
    rfl
end
mutual
theorem low_of {k : Nat} : ∀ {d : Dv} {p : PyData}, pyP d = some p → lowD k d = true
  | .non, _, _ => by rw [lowD]
  | .bl _, _, _ => by rw [lowD]
  | .int _, _, _ => by rw [lowD]
  | .str _, _, _ => by rw [lowD]
  | .tup l, _, h => by
    rw [pyP, Option.map_eq_some_iff] at h
    obtain ⟨q, h, _⟩ := h
    rw [lowD, lows_of h]
  | .ktup l, _, h => by
    rw [pyP, Option.map_eq_some_iff] at h
    obtain ⟨q, h, _⟩ := h
    rw [lowD, lows_of h]
  | .lst l, _, h => by
    rw [pyP, Option.map_eq_some_iff] at h
    obtain ⟨q, h, _⟩ := h
    rw [lowD, lows_of h]
  | .ro l, _, h => by
    rw [pyP, Option.map_eq_some_iff] at h
    obtain ⟨q, h, _⟩ := h
    rw [lowD, lows_of h]
  | .ins _ _, _, h => by rw [pyP] at h; cases h
  | .dic _, _, h => by rw [pyP] at h; cases h
  | .cell _, _, h => by rw [pyP] at h; cases h
  | .con _, _, h => by rw [pyP] at h; cases h
  | .exn _ _ _ _, _, h => by rw [pyP] at h; cases h
  | .cls _, _, h => by rw [pyP] at h; cases h
theorem lows_of {k : Nat} : ∀ {d : List Dv} {p : List PyData}, pyPs d = some p → lowL k d = true
  | [], _, _ => by rw [lowL]
  | d :: r, _, h => by
    rw [pyPs, Option.bind_eq_some_iff] at h
    obtain ⟨q, h1, h⟩ := h
    rw [Option.map_eq_some_iff] at h
    obtain ⟨qs, h2, _⟩ := h
    rw [lowL, low_of h1, lows_of h2]
    rfl
end
mutual
/-- what holds no cells is not frozen further -/
theorem frz_py {S : Sto} {n : Nat} : ∀ (f : Nat) {d : Dv} {p : PyData}, pyP d = some p → frz S n f d = d
  | 0, _, _, _ => rfl
  | f + 1, .tup l, _, h => by
    rw [pyP, Option.map_eq_some_iff] at h
    obtain ⟨q, h, _⟩ := h
    show Dv.tup (l.map (frz S n f)) = _
    rw [frzs_py f h]
  | f + 1, .ktup l, _, h => by
    rw [pyP, Option.map_eq_some_iff] at h
    obtain ⟨q, h, _⟩ := h
    show Dv.ktup (l.map (frz S n f)) = _
    rw [frzs_py f h]
  | f + 1, .lst l, _, h => by
    rw [pyP, Option.map_eq_some_iff] at h
    obtain ⟨q, h, _⟩ := h
    show Dv.lst (l.map (frz S n f)) = _
    rw [frzs_py f h]
  | f + 1, .ins _ _, _, h => by rw [pyP] at h; cases h
  | f + 1, .cell _, _, h => by rw [pyP] at h; cases h
  | f + 1, .dic _, _, h => by rw [pyP] at h; cases h
  | f + 1, .con _, _, h => by rw [pyP] at h; cases h
  | f + 1, .exn _ _ _ _, _, h => by rw [pyP] at h; cases h
  | f + 1, .cls _, _, h => by rw [pyP] at h; cases h
  | f + 1, .non, _, h => rfl
  | f + 1, .bl _, _, h => rfl
  | f + 1, .int _, _, h => rfl
  | f + 1, .str _, _, h => rfl
  | f + 1, .ro _, _, h => rfl
theorem frzs_py {S : Sto} {n : Nat} : ∀ (f : Nat) {d : List Dv} {p : List PyData}, pyPs d = some p → d.map (frz S n f) = d
  | _, [], _, _ => rfl
  | f, d :: r, _, h => by
    rw [pyPs, Option.bind_eq_some_iff] at h
    obtain ⟨q, h1, h⟩ := h
    rw [Option.map_eq_some_iff] at h
    obtain ⟨qs, h2, _⟩ := h
    rw [List.map_cons, frz_py f h1, frzs_py f h2]
end
/-! ### the plain kinds of data -/
theorem eqD_py {S : Sto} {d e : Dv} {p q : PyData} {h : Bool → Bool} (h1 : toPy S d = some p) (h2 : toPy S e = some q) (s1 : SeqAt.shaped p = true) (s2 : SeqAt.shaped q = true) : oEqF h d e S = .ok (.bl (h (PyData.eqv p q))) S := by
  have a : oEqD h d e S = .ok (.bl (h (PyData.eqv p q))) S := by
    unfold oEqD
    rw [h1, h2]
    dsimp only
    rw [s1, s2]
    rfl
  unfold oEqF
  split
  · rename_i x y
    rw [toPy] at h1 h2
    cases h1
    cases h2
    rw [eqv_str]
  · exact a
theorem shaped_of {p : PyData} {n : Nat} (h : p.canLay0 = true) (hd : p.depth ≤ n) (hn : n ≤ 32 := by omega) : SeqAt.shaped p = true := by
  unfold SeqAt.shaped
  rw [h]
  have : decide (p.depth ≤ 64) = true := decide_eq_true (by omega)
  simp [this]
end DL

/-! Mirrors of defs, as gen.py prints them. -/
namespace DL
open PySem PySem.Spec PyProof.Rows L2
noncomputable def b_is_name : Sm := (sRet (eAnd (eCh (fun i j => decide (i ≤ j)) (fun i j => decide (i ≤ j)) (eC (.int 1)) (eN bLen (aCons (eV 0) aNil)) (eC (.int 8))) (eN bAll (aCons (eLc (iSeq (eV 0)) (gN 1) ttYes (e2 oIn (eV 1) (eC (.str "abcdefghijklmnopqrstuvwxyz"))) [1]) aNil))))
noncomputable def m_is_name : Fn := fz (runD 2 b_is_name)
noncomputable def b_check_kinds : Sm := (sSeq (sSet 1 (eN mkC aNil))
    (sFor (iSeq (eV 0)) (gN 2) (sSeq (sIf (tNotD (tV (eCall 1 m_is_name (aCons (eV 2) aNil)))) (sRaise 8 (eV 2)) sNil)
    (sSeq (sIf (tV (e2 oIn (eV 2) (eV 1))) (sRaise 3 (eV 2)) sNil)
    (sExpr (eM isL mApp (eV 1) (aCons (eV 2) aNil)))))))
noncomputable def m_check_kinds : Fn := fz (runD 3 b_check_kinds)
noncomputable def b_check_rule : Sm := (sIf (tOrD (tV (eN bAny (aCons (eLc (iSeq (eV 1)) (gN 2) ttYes (e2 oNotIn (eV 2) (eV 0)) [2]) aNil))) (tV (e2 oEq (e2 oIx (eV 1) (eC (.int 2))) (e2 oIx (eV 1) (eC (.int 0)))))) (sRaise 9 (eV 1)) sNil)
noncomputable def m_check_rule : Fn := fz (runD 3 b_check_rule)
noncomputable def b_Book_init : Sm := (sSeq (sExpr (eCall 1 m_check_kinds (aCons (eV 1) aNil)))
    (sSeq (sSet 3 (eN mkC aNil))
    (sSeq (sFor (iSeq (eV 2)) (gN 4) (sSeq (sExpr (eCall 2 m_check_rule (aCons (eV 1) (aCons (eV 4) aNil))))
    (sSeq (sIf (tV (e2 oIn (eV 4) (eV 3))) (sRaise 4 (eV 4)) sNil)
    (sExpr (eM isL mApp (eV 3) (aCons (eV 4) aNil))))))
    (sSeq (sFldD 0 "kept_kinds" (eV 0) (eN bTupleK (aCons (eV 1) aNil)))
    (sSeq (sSet 5 (eN bSorted (aCons (eLc (iSeq (eV 2)) (gN 4) ttYes (eN bTuple (aCons (eLc (iSeq (eV 4)) (gN 7) ttYes (eM isL mIndex (eV 1) (aCons (eV 7) aNil)) [7]) aNil)) [4]) aNil)))
    (sFldD 0 "kept_rules" (eV 0) (eN bTuple (aCons (eLc (iSeq (eV 5)) (gN 6) ttYes (eN bTuple (aCons (eLc (iSeq (eV 6)) (gN 8) ttYes (e2 oIx (eV 1) (eV 8)) [8]) aNil)) [6]) aNil))))))))
noncomputable def m_Book_init : Fn := fz (runD 9 b_Book_init)
noncomputable def m_Book : Fn := fz (makeD 0 m_Book_init)
noncomputable def b_Book_kinds : Sm := (sRet (eN bList (aCons (e1 (fldD 0 "kept_kinds") (eV 0)) aNil)))
noncomputable def m_Book_kinds : Fn := fz (runD 1 b_Book_kinds)
noncomputable def b_Book_without : Sm := (sSeq (sIf (tV (e2 oNotIn (eV 1) (e1 (fldD 0 "kept_rules") (eV 0)))) (sRaise 9 (eV 1)) sNil)
    (sRet (eCall 2 m_Book (aCons (e1 (prpD 0 m_Book_kinds) (eV 0)) (aCons (eLc (iSeq (e1 (fldD 0 "kept_rules") (eV 0))) (gN 2) (tV (e2 oNe (eV 2) (eV 1))) (eV 2) [2]) aNil)))))
noncomputable def m_Book_without : Fn := fz (runD 3 b_Book_without)
noncomputable def b_Book_eq : Sm := (sSeq (sIf (tNotD (tV (eN (bIsi 0 (isS 0)) (aCons (eV 1) (aCons (eC (.cls 0)) aNil))))) (sRet (eC (.bl false))) sNil)
    (sRet (eAnd (e2 oEq (e1 (fldD 0 "kept_kinds") (eV 0)) (e1 (fldD 0 "kept_kinds") (eV 1))) (e2 oEq (e1 (fldD 0 "kept_rules") (eV 0)) (e1 (fldD 0 "kept_rules") (eV 1))))))
noncomputable def m_Book_eq : Fn := fz (runD 2 b_Book_eq)
noncomputable def b_Book_rules : Sm := (sRet (eN bList (aCons (e1 (fldD 0 "kept_rules") (eV 0)) aNil)))
noncomputable def m_Book_rules : Fn := fz (runD 1 b_Book_rules)
noncomputable def b_Book_len : Sm := (sRet (eN bLen (aCons (e1 (fldD 0 "kept_rules") (eV 0)) aNil)))
noncomputable def m_Book_len : Fn := fz (runD 1 b_Book_len)
noncomputable def b_check_crowd : Sm := (sIf (tOrD (tV (e2 oNe (eN bLen (aCons (eV 1) aNil)) (eV 0))) (tV (eN bAny (aCons (eLc (iSeq (eV 1)) (gN 2) ttYes (e2 oLt (eV 2) (eC (.int 0))) [2]) aNil)))) (sRaise 7 (eN bList (aCons (eV 1) aNil))) sNil)
noncomputable def m_check_crowd : Fn := fz (runD 3 b_check_crowd)
noncomputable def b_moved : Sm := (sSeq (sAsg (eV 1) (gTp 3 (gsCons (gN 2) (gsCons (gN 3) (gsCons (gN 4) gsNil)))))
    (sSeq (sIf (tOrD (tV (e2 oLt (e2 oIx (eV 0) (eV 2)) (eC (.int 1)))) (tV (e2 oLt (e2 oIx (eV 0) (eV 3)) (e2 oAdd (eC (.int 1)) (eN bInt (aCons (e2 oEq (eV 3) (eV 2)) aNil)))))) (sRet (eC .non)) sNil)
    (sSeq (sSet 5 (eN bListC (aCons (eV 0) aNil)))
    (sSeq (sAsg (e2 oSub (e2 oIx (eV 5) (eV 2)) (eC (.int 1))) (gIx (eV 5) (eV 2)))
    (sSeq (sAsg (e2 oAdd (e2 oIx (eV 5) (eV 4)) (eC (.int 1))) (gIx (eV 5) (eV 4)))
    (sRet (eN bTuple (aCons (eV 5) aNil))))))))
noncomputable def m_moved : Fn := fz (runD 6 b_moved)
noncomputable def b_places_of : Sm := (sRet (eN bTuple (aCons (eLc (iSeq (eV 1)) (gN 2) ttYes (eM isKt mTIndex (e1 (fldD 0 "kept_kinds") (eV 0)) (aCons (eV 2) aNil)) [2]) aNil)))
noncomputable def m_places_of : Fn := fz (runD 3 b_places_of)
noncomputable def b_can_doC : Sm := (sSeq (sExpr (eCall 2 m_check_crowd (aCons (eN bLen (aCons (e1 (fldD 0 "kept_kinds") (eV 0)) aNil)) (aCons (eV 1) aNil))))
    (sRet (eLcC (iSeq (e1 (fldD 0 "kept_rules") (eV 0))) (gN 2) (tV (e2 oIsNot (eCall 2 m_moved (aCons (eV 1) (aCons (eCall 2 m_places_of (aCons (eV 0) (aCons (eV 2) aNil))) aNil))) (eC .non))) (eV 2) [2])))
noncomputable def m_can_doC : Fn := runD 3 b_can_doC
noncomputable def b_doneC : Sm := (sSeq (sExpr (eCall 2 m_check_crowd (aCons (eN bLen (aCons (e1 (fldD 0 "kept_kinds") (eV 0)) aNil)) (aCons (eV 1) aNil))))
    (sSeq (sIf (tV (e2 oNotIn (eV 2) (e1 (fldD 0 "kept_rules") (eV 0)))) (sRaise 9 (eV 2)) sNil)
    (sSeq (sSet 3 (eCall 2 m_moved (aCons (eV 1) (aCons (eCall 2 m_places_of (aCons (eV 0) (aCons (eV 2) aNil))) aNil))))
    (sSeq (sIf (tV (e2 oIs (eV 3) (eC .non))) (sRaise 10 (eV 2)) sNil)
    (sRet (eN bListC (aCons (eV 3) aNil)))))))
noncomputable def m_doneC : Fn := runD 4 b_doneC
noncomputable def b_followC : Sm := (sSeq (sExpr (eCall 2 m_check_crowd (aCons (eN bLen (aCons (e1 (fldD 0 "kept_kinds") (eV 0)) aNil)) (aCons (eV 1) aNil))))
    (sSeq (sSet 3 (eN bTuple (aCons (eV 1) aNil)))
    (sSeq (sFor (iRg1 (aCons (eN bLen (aCons (eV 2) aNil)) aNil)) (gN 4) (sSeq (sSet 5 (eIf (tV (e2 oIn (e2 oIx (eV 2) (eV 4)) (e1 (fldD 0 "kept_rules") (eV 0)))) (eCall 2 m_moved (aCons (eV 3) (aCons (eCall 2 m_places_of (aCons (eV 0) (aCons (e2 oIx (eV 2) (eV 4)) aNil))) aNil))) (eC .non)))
    (sSeq (sIf (tV (e2 oIs (eV 5) (eC .non))) (sRaise 10 (eV 4)) sNil)
    (sSet 3 (eV 5)))))
    (sRet (eN bListC (aCons (eV 3) aNil))))))
noncomputable def m_followC : Fn := runD 6 b_followC
noncomputable def b_can_do : Sm := (sSeq (sExpr (eCall 2 m_check_crowd (aCons (eN bLen (aCons (e1 (fldD 0 "kept_kinds") (eV 0)) aNil)) (aCons (eV 1) aNil))))
    (sRet (eLc (iSeq (e1 (fldD 0 "kept_rules") (eV 0))) (gN 2) (tV (e2 oIsNot (eCall 2 m_moved (aCons (eV 1) (aCons (eCall 2 m_places_of (aCons (eV 0) (aCons (eV 2) aNil))) aNil))) (eC .non))) (eV 2) [2])))
noncomputable def m_can_do : Fn := fz (runD 3 b_can_do)
noncomputable def b_Book_kindsC : Sm := (sRet (eN bListC (aCons (e1 (fldD 0 "kept_kinds") (eV 0)) aNil)))
noncomputable def m_Book_kindsC : Fn := runD 1 b_Book_kindsC
noncomputable def b_Book_rulesC : Sm := (sRet (eN bListC (aCons (e1 (fldD 0 "kept_rules") (eV 0)) aNil)))
noncomputable def m_Book_rulesC : Fn := runD 1 b_Book_rulesC
noncomputable def b_twos : Sm := (sSeq (sSet 1 (eN mkC aNil))
    (sSeq (sFor (iRg1 (aCons (eV 0) aNil)) (gN 2) (sFor (iRg2 (aCons (eV 2) (aCons (eV 0) aNil))) (gN 3) (sExpr (eM isL mApp (eV 1) (aCons (eLc (iRg1 (aCons (eV 0) aNil)) (gN 4) ttYes (e2 oAdd (eN bInt (aCons (e2 oEq (eV 4) (eV 2)) aNil)) (eN bInt (aCons (e2 oEq (eV 4) (eV 3)) aNil))) [4]) aNil)))))
    (sRet (eN bSorted (aCons (eV 1) aNil)))))
noncomputable def m_twos : Fn := fz (runD 5 b_twos)
noncomputable def b_reached : Sm := (sSeq (sPar 2 3 (aCons (eN mkC (aCons (eN bTuple (aCons (eV 1) aNil)) aNil)) (aCons (eDic1 (eN bTuple (aCons (eV 1) aNil)) (eC (.bl true))) aNil)))
    (sSeq (sSet 4 (eC (.int 0)))
    (sSeq (sWhile (tV (e2 oLt (eV 4) (eN bLen (aCons (eV 2) aNil)))) (sSeq (sFor (iSeq (eV 0)) (gN 5) (sSeq (sSet 6 (eCall 2 m_moved (aCons (e2 oIx (eV 2) (eV 4)) (aCons (eV 5) aNil))))
    (sIf (tAndD (tV (e2 oIsNot (eV 6) (eC .non))) (tV (e2 oNotInM (eV 6) (eV 3)))) (sSeq (sPutM (eV 3) (eV 6) (eC (.bl true)))
    (sExpr (eM isL mApp (eV 2) (aCons (eV 6) aNil)))) sNil)))
    (sSet 4 (e2 oAdd (eV 4) (eC (.int 1))))))
    (sRet (eV 2)))))
noncomputable def m_reached : Fn := fz (runD 7 b_reached)
noncomputable def b_moves_of : Sm := (sRet (eLc (iSeq (e1 (fldD 0 "kept_rules") (eV 0))) (gN 1) ttYes (eCall 2 m_places_of (aCons (eV 0) (aCons (eV 1) aNil))) [1]))
noncomputable def m_moves_of : Fn := fz (runD 2 b_moves_of)
noncomputable def b_first_unlike : Sm := (sSeq (sIf (tV (e2 oNe (e1 (fldD 0 "kept_kinds") (eV 0)) (e1 (fldD 0 "kept_kinds") (eV 1)))) (sRaise 12 (eN mkT (aCons (e1 (prpD 0 m_Book_kindsC) (eV 0)) (aCons (e1 (prpD 0 m_Book_kindsC) (eV 1)) aNil)))) sNil)
    (sSeq (sFor (iSeq (eCall 1 m_twos (aCons (eN bLen (aCons (e1 (fldD 0 "kept_kinds") (eV 0)) aNil)) aNil))) (gN 2) (sIf (tV (e2 oNe (eN bSorted (aCons (eCall 2 m_reached (aCons (eCall 1 m_moves_of (aCons (eV 0) aNil)) (aCons (eV 2) aNil))) aNil)) (eN bSorted (aCons (eCall 2 m_reached (aCons (eCall 1 m_moves_of (aCons (eV 1) aNil)) (aCons (eV 2) aNil))) aNil)))) (sRet (eV 2)) sNil))
    (sRet (eC .non))))
noncomputable def m_first_unlike : Fn := fz (runD 3 b_first_unlike)
noncomputable def b_two_of : Sm := (sRet (eN bTuple (aCons (eLc (iRg1 (aCons (eV 1) aNil)) (gN 2) ttYes (e2 oAdd (eN bInt (aCons (e2 oEq (eV 2) (e2 oIx (eV 0) (eC (.int 0)))) aNil)) (eN bInt (aCons (e2 oEq (eV 2) (e2 oIx (eV 0) (eC (.int 1)))) aNil))) [2]) aNil)))
noncomputable def m_two_of : Fn := fz (runD 3 b_two_of)
noncomputable def b_follows_from : Sm := (sSeq (sSet 3 (eCall 2 m_two_of (aCons (eV 1) (aCons (eV 2) aNil))))
    (sRet (e2 oIn (eCall 2 m_moved (aCons (eV 3) (aCons (eV 1) aNil))) (eCall 2 m_reached (aCons (eV 0) (aCons (eV 3) aNil))))))
noncomputable def m_follows_from : Fn := fz (runD 4 b_follows_from)
noncomputable def b_follows : Sm := (sSeq (sExpr (eCall 2 m_check_rule (aCons (e1 (fldD 0 "kept_kinds") (eV 0)) (aCons (eV 1) aNil))))
    (sRet (eCall 3 m_follows_from (aCons (eCall 1 m_moves_of (aCons (eV 0) aNil)) (aCons (eCall 2 m_places_of (aCons (eV 0) (aCons (eV 1) aNil))) (aCons (eN bLen (aCons (e1 (fldD 0 "kept_kinds") (eV 0)) aNil)) aNil))))))
noncomputable def m_follows : Fn := fz (runD 2 b_follows)
noncomputable def b_needless : Sm := (sRet (eLc (iSeq (e1 (fldD 0 "kept_rules") (eV 0))) (gN 1) (tV (eCall 2 m_follows (aCons (eMth 0 "without" 1 m_Book_without (eV 0) (aCons (eV 1) aNil)) (aCons (eV 1) aNil)))) (eV 1) [1]))
noncomputable def m_needless : Fn := fz (runD 2 b_needless)
noncomputable def b_all_sets : Sm := (sSeq (sSet 1 (eN mkL (aCons (eN mkL aNil) aNil)))
    (sSeq (sFor (iRg1 (aCons (eV 0) aNil)) (gN 2) (sSet 1 (e2 oAdd (eV 1) (eLc (iSeq (eV 1)) (gN 4) ttYes (eN mkL (aStar (eV 4) (aCons (eV 2) aNil))) [4]))))
    (sRet (eLc (iSeq (eN bSorted (aCons (eLc (iSeq (eV 1)) (gN 4) ttYes (eN mkT (aCons (eN bLen (aCons (eV 4) aNil)) (aCons (eV 4) aNil))) [4]) aNil))) (gTp 2 (gsCons (gN 3) (gsCons (gN 4) gsNil))) ttYes (eV 4) [3, 4]))))
noncomputable def m_all_sets : Fn := fz (runD 5 b_all_sets)
noncomputable def b_least_rules : Sm := (sSeq (sAsg (eN mkT (aCons (eCall 1 m_moves_of (aCons (eV 0) aNil)) (aCons (eN bLen (aCons (e1 (fldD 0 "kept_kinds") (eV 0)) aNil)) (aCons (eN mkC aNil) aNil)))) (gTp 3 (gsCons (gN 1) (gsCons (gN 2) (gsCons (gN 3) gsNil)))))
    (sSeq (sFor (iSeq (eCall 1 m_all_sets (aCons (eN bLen (aCons (eV 1) aNil)) aNil))) (gN 4) (sIf (tNotD (tV (eN bAny (aCons (eLc (iSeq (eV 3)) (gN 7) ttYes (eN bAll (aCons (eLc (iSeq (eV 7)) (gN 6) ttYes (e2 oIn (eV 6) (eV 4)) [6]) aNil)) [7]) aNil)))) (sSeq (sSet 5 (eLc (iSeq (eV 4)) (gN 6) ttYes (e2 oIx (eV 1) (eV 6)) [6]))
    (sIf (tV (eN bAll (aCons (eLc (iRg1 (aCons (eN bLen (aCons (eV 1) aNil)) aNil)) (gN 6) ttYes (eOr (e2 oIn (eV 6) (eV 4)) (eCall 3 m_follows_from (aCons (eV 5) (aCons (e2 oIx (eV 1) (eV 6)) (aCons (eV 2) aNil))))) [6]) aNil))) (sExpr (eM isL mApp (eV 3) (aCons (eV 4) aNil))) sNil)) sNil))
    (sRet (eLc (iSeq (eV 3)) (gN 4) ttYes (eLc (iSeq (eV 4)) (gN 6) ttYes (e2 oIx (e1 (fldD 0 "kept_rules") (eV 0)) (eV 6)) [6]) [4]))))
noncomputable def m_least_rules : Fn := fz (runD 8 b_least_rules)
noncomputable def b_done : Sm := (sSeq (sExpr (eCall 2 m_check_crowd (aCons (eN bLen (aCons (e1 (fldD 0 "kept_kinds") (eV 0)) aNil)) (aCons (eV 1) aNil))))
    (sSeq (sIf (tV (e2 oNotIn (eV 2) (e1 (fldD 0 "kept_rules") (eV 0)))) (sRaise 9 (eV 2)) sNil)
    (sSeq (sSet 3 (eCall 2 m_moved (aCons (eV 1) (aCons (eCall 2 m_places_of (aCons (eV 0) (aCons (eV 2) aNil))) aNil))))
    (sSeq (sIf (tV (e2 oIs (eV 3) (eC .non))) (sRaise 10 (eV 2)) sNil)
    (sRet (eN bList (aCons (eV 3) aNil)))))))
noncomputable def m_done : Fn := fz (runD 4 b_done)
noncomputable def b_first_unlike_v2 : Sm := (sSeq (sIf (tV (e2 oNe (e1 (fldD 0 "kept_kinds") (eV 0)) (e1 (fldD 0 "kept_kinds") (eV 1)))) (sRaise 12 (eN mkT (aCons (e1 (prpD 0 m_Book_kinds) (eV 0)) (aCons (e1 (prpD 0 m_Book_kinds) (eV 1)) aNil)))) sNil)
    (sSeq (sFor (iSeq (eCall 1 m_twos (aCons (eN bLen (aCons (e1 (fldD 0 "kept_kinds") (eV 0)) aNil)) aNil))) (gN 2) (sIf (tV (e2 oNe (eN bSorted (aCons (eCall 2 m_reached (aCons (eCall 1 m_moves_of (aCons (eV 0) aNil)) (aCons (eV 2) aNil))) aNil)) (eN bSorted (aCons (eCall 2 m_reached (aCons (eCall 1 m_moves_of (aCons (eV 1) aNil)) (aCons (eV 2) aNil))) aNil)))) (sRet (eV 2)) sNil))
    (sRet (eC .non))))
noncomputable def m_first_unlike_v2 : Fn := fz (runD 3 b_first_unlike_v2)
end DL

/-! Mirrors of defs, as gen.py prints them. -/
namespace DL
open PySem PySem.Spec PyProof.Rows L2
noncomputable def b__law_mill : Sm := (sSeq (sSet 2 (eC (.int 0)))
    (sSeq (sIf (tV (e2 oLt (eV 1) (eN bLen (aCons (eV 0) aNil)))) (sSet 2 (e2 oIx (eV 0) (eV 1))) sNil)
    (sSeq (sSet 3 (eC (.int 0)))
    (sSeq (sIf (tV (e2 oGt (eV 2) (e2 oPow (eC (.int 10)) (eC (.int 12))))) (sSet 3 (e2 oDiv (eV 2) (eC (.int 2)))) sNil)
    (sRet (eN mkC (aCons (eV 3) (aCons (e2 oAdd (e2 oMul (eC (.int 40692)) (e2 oAdd (eV 1) (eC (.int 1)))) (e2 oMod (eN bInt (aCons (eN bAbs (aCons (eV 2) aNil)) aNil)) (eC (.int 1000000000000037)))) aNil))))))))
noncomputable def m__law_mill : Fn := runD 4 b__law_mill
noncomputable def b__law_grind : Sm := (sSeq (sIf (tV (e2 oGt (e2 oIx (eV 0) (eC (.int 0))) (eC (.int 0)))) (sSeq (sSet 2 (e2 oMod (eN bInt (aCons (e2 oIx (eV 0) (eC (.int 0))) aNil)) (eV 1)))
    (sSeq (sAsg (e2 oDiv (e2 oIx (eV 0) (eC (.int 0))) (eV 1)) (gIx (eV 0) (eC (.int 0))))
    (sRet (eV 2)))) sNil)
    (sSeq (sAsg (e2 oMod (eN bInt (aCons (e2 oAdd (e2 oMul (e2 oIx (eV 0) (eC (.int 1))) (eC (.int 6364136223846793005))) (eC (.int 1442695040888963407))) aNil)) (eC (.int 18446744073709551616))) (gIx (eV 0) (eC (.int 1))))
    (sRet (e2 oMod (eN bInt (aCons (e2 oDiv (e2 oIx (eV 0) (eC (.int 1))) (eC (.int 8589934592))) aNil)) (eV 1)))))
noncomputable def m__law_grind : Fn := fz (runD 3 b__law_grind)
noncomputable def b__law_tribes : Sm := (sSeq (sSet 2 (eN mkC (aCons (eN mkL (aCons (eC (.str "a")) (aCons (eC (.str "b")) (aCons (eC (.str "c")) (aCons (eC (.str "d")) (aCons (eC (.str "e")) (aCons (eC (.str "f")) (aCons (eC (.str "g")) (aCons (eC (.str "h")) aNil))))))))) aNil)))
    (sSeq (sExpr (eM isL mApp (eV 2) (aCons (eN mkL (aCons (eC (.str "red")) (aCons (eC (.str "blue")) (aCons (eC (.str "re")) (aCons (eC (.str "bluer")) (aCons (eC (.str "r")) (aCons (eC (.str "b")) (aCons (eC (.str "redred")) (aCons (eC (.str "blu")) aNil))))))))) aNil)))
    (sSeq (sExpr (eM isL mApp (eV 2) (aCons (eN mkL (aCons (eC (.str "kind")) (aCons (eC (.str "kinds")) (aCons (eC (.str "sees")) (aCons (eC (.str "seesaw")) (aCons (eC (.str "ab")) (aCons (eC (.str "ba")) (aCons (eC (.str "abcdefgh")) (aCons (eC (.str "abcdefgz")) aNil))))))))) aNil)))
    (sSeq (sPar 3 4 (aCons (eN bListC (aCons (e2 oIx (eV 2) (eCall 2 m__law_grind (aCons (eV 0) (aCons (eC (.int 3)) aNil)))) aNil)) (aCons (eN mkC aNil) aNil)))
    (sSeq (sFor (iRg1 (aCons (eV 1) aNil)) (gN 5) (sExpr (eM isL mApp (eV 4) (aCons (eM isL mPopAt (eV 3) (aCons (eCall 2 m__law_grind (aCons (eV 0) (aCons (eN bLen (aCons (eV 3) aNil)) aNil))) aNil)) aNil))))
    (sRet (eV 4)))))))
noncomputable def m__law_tribes : Fn := fz (runD 6 b__law_tribes)
noncomputable def b__law_manual : Sm := (sSeq (sPar 3 4 (aCons (eCall 2 m__law_tribes (aCons (eV 0) (aCons (e2 oAdd (eC (.int 1)) (eCall 2 m__law_grind (aCons (eV 0) (aCons (eV 1) aNil)))) aNil))) (aCons (eN mkC aNil) aNil)))
    (sSeq (sSet 5 (eN mkC aNil))
    (sSeq (sFor (iSeq (eV 3)) (gN 6) (sFor (iSeq (eV 3)) (gN 7) (sSet 5 (e2 oAddC (eV 5) (eLc (iSeq (eV 3)) (gN 9) (tV (e2 oNe (eV 9) (eV 6))) (eN mkT (aCons (eV 6) (aCons (eV 7) (aCons (eV 9) aNil)))) [9])))))
    (sSeq (sFor (iRg1 (aCons (eCall 2 m__law_grind (aCons (eV 0) (aCons (e2 oAdd (eV 2) (eC (.int 1))) aNil))) aNil)) (gN 8) (sIf (tV (e2 oNe (eV 5) (eN mkL aNil))) (sExpr (eM isL mApp (eV 4) (aCons (eM isL mPopAt (eV 5) (aCons (eCall 2 m__law_grind (aCons (eV 0) (aCons (eN bLen (aCons (eV 5) aNil)) aNil))) aNil)) aNil))) sNil))
    (sRet (eN mkT (aCons (eV 3) (aCons (eV 4) aNil))))))))
noncomputable def m__law_manual : Fn := fz (runD 10 b__law_manual)
noncomputable def b__law_code : Sm := (sRet (eCall 2 m_Book (aCons (eN bList (aCons (e2 oIx (eV 0) (eC (.int 0))) aNil)) (aCons (eN bList (aCons (e2 oIx (eV 0) (eC (.int 1))) aNil)) aNil))))
noncomputable def m__law_code : Fn := fz (runD 1 b__law_code)
noncomputable def b__law_ranked : Sm := (sSeq (sSet 1 (eN bSorted (aCons (eLc (iSeq (e2 oIx (eV 0) (eC (.int 1)))) (gN 3) ttYes (eLc (iSeq (eV 3)) (gN 4) ttYes (eM isL mIndex (e2 oIx (eV 0) (eC (.int 0))) (aCons (eV 4) aNil)) [4]) [3]) aNil)))
    (sRet (eLc (iSeq (eV 1)) (gN 2) ttYes (eN bTuple (aCons (eLc (iSeq (eV 2)) (gN 5) ttYes (e2 oIx (e2 oIx (eV 0) (eC (.int 0))) (eV 5)) [5]) aNil)) [2])))
noncomputable def m__law_ranked : Fn := fz (runD 6 b__law_ranked)
noncomputable def b__law_turned_to : Sm := (sSeq (sAsg (eLc (iSeq (eV 2)) (gN 6) ttYes (eM isL mIndex (e2 oIx (eV 0) (eC (.int 0))) (aCons (eV 6) aNil)) [6]) (gUl 3 (gsCons (gN 3) (gsCons (gN 4) (gsCons (gN 5) gsNil)))))
    (sSeq (sIf (tOrD (tV (e2 oLt (e2 oIx (eV 1) (eV 3)) (eC (.int 1)))) (tV (e2 oLt (e2 oIx (eV 1) (eV 4)) (e2 oAdd (eC (.int 1)) (eN bInt (aCons (e2 oEq (eV 4) (eV 3)) aNil)))))) (sRet (eC .non)) sNil)
    (sRet (eLc (iEn (aCons (eV 1) aNil)) (gTp 2 (gsCons (gN 7) (gsCons (gN 8) gsNil))) ttYes (e2 oAdd (e2 oSub (eV 8) (eN bInt (aCons (e2 oEq (eV 7) (eV 3)) aNil))) (eN bInt (aCons (e2 oEq (eV 7) (eV 5)) aNil))) [7, 8]))))
noncomputable def m__law_turned_to : Fn := fz (runD 9 b__law_turned_to)
noncomputable def b__law_pair : Sm := (sRet (eLc (iSeq (e2 oIx (eV 0) (eC (.int 0)))) (gN 2) ttYes (e2 oAdd (eN bInt (aCons (e2 oEq (eV 2) (e2 oIx (eV 1) (eC (.int 0)))) aNil)) (eN bInt (aCons (e2 oEq (eV 2) (e2 oIx (eV 1) (eC (.int 1)))) aNil))) [2]))
noncomputable def m__law_pair : Fn := fz (runD 3 b__law_pair)
noncomputable def b__law_all_behind : Sm := (sSeq (sPar3 2 3 4 (aCons (eN mkC (aCons (eN bList (aCons (eV 1) aNil)) aNil)) (aCons (eDik1 (eN bRepr (aCons (eN bList (aCons (eV 1) aNil)) aNil)) (eC (.int 1))) (aCons (eC (.int 0)) aNil))))
    (sSeq (sWhile (tV (e2 oLt (eV 4) (eN bLen (aCons (eV 2) aNil)))) (sSeq (sFor (iSeq (e2 oIx (eV 0) (eC (.int 1)))) (gN 5) (sSeq (sSet 6 (eCall 3 m__law_turned_to (aCons (eV 0) (aCons (e2 oIx (eV 2) (eV 4)) (aCons (eV 5) aNil)))))
    (sIf (tAndD (tV (e2 oIsNot (eV 6) (eC .non))) (tV (e2 oNotInM (eN bRepr (aCons (eV 6) aNil)) (eV 3)))) (sSeq (sPutM (eV 3) (eN bRepr (aCons (eV 6) aNil)) (eC (.int 1)))
    (sExpr (eM isL mApp (eV 2) (aCons (eV 6) aNil)))) sNil)))
    (sSet 4 (e2 oAdd (eV 4) (eC (.int 1))))))
    (sRet (eV 2))))
noncomputable def m__law_all_behind : Fn := fz (runD 7 b__law_all_behind)
noncomputable def b__law_comes : Sm := (sSeq (sSet 2 (eCall 2 m__law_pair (aCons (eV 0) (aCons (eV 1) aNil))))
    (sRet (e2 oIn (eCall 3 m__law_turned_to (aCons (eV 0) (aCons (eV 2) (aCons (eV 1) aNil)))) (eCall 2 m__law_all_behind (aCons (eV 0) (aCons (eV 2) aNil))))))
noncomputable def m__law_comes : Fn := fz (runD 3 b__law_comes)
noncomputable def b__law_herds : Sm := (sSeq (sSet 2 (eN mkL (aCons (eN mkL aNil) aNil)))
    (sSeq (sFor (iRg1 (aCons (eV 0) aNil)) (gN 3) (sSeq (sSet 4 (eN mkL aNil))
    (sSeq (sFor (iSeq (eV 2)) (gN 5) (sSet 4 (e2 oAdd (eV 4) (eLc (iRg1 (aCons (e2 oSub (e2 oAdd (eV 1) (eC (.int 1))) (eN bSum (aCons (eV 5) aNil))) aNil)) (gN 6) ttYes (e2 oAdd (eV 5) (eN mkL (aCons (eV 6) aNil))) [6]))))
    (sSet 2 (eV 4)))))
    (sRet (eV 2))))
noncomputable def m__law_herds : Fn := fz (runD 7 b__law_herds)
end DL

/-! law_k24_rules_that_follow: what its defs denote. -/
namespace DL
open PySem PySem.Spec PyProof.Rows L2
abbrev T_excs : List Nat := [2, 8, 3, 9, 4]
noncomputable def b__law_chain : Sm := (sSeq (sPar 2 3 (aCons (e2 oIx (eV 1) (eC (.int 0))) (aCons (eN bListC (aCons (e2 oIx (eV 1) (eC (.int 1))) aNil)) aNil)))
    (sSeq (sFor (iRg1 (aCons (e2 oSub (eN bLen (aCons (eV 2) aNil)) (eC (.int 1))) aNil)) (gN 4) (sSeq (sSet 5 (e2 oIx (eV 2) (e2 oIx (eN mkL (aCons (eV 4) (aCons (e2 oAdd (eV 4) (eC (.int 1))) (aCons (eC (.int 0)) (aCons (e2 oSub (eN bLen (aCons (eV 2) aNil)) (eC (.int 1))) aNil))))) (eCall 2 m__law_grind (aCons (eV 0) (aCons (eC (.int 4)) aNil))))))
    (sSeq (sSet 6 (eN mkT (aCons (e2 oIx (eV 2) (eV 4)) (aCons (eV 5) (aCons (e2 oIx (eV 2) (e2 oAdd (eV 4) (eC (.int 1)))) aNil)))))
    (sIf (tAndD (tV (e2 oNotIn (eV 6) (eV 3))) (tAndD (tV (e2 oLt (eN bLen (aCons (eV 3) aNil)) (eC (.int 8)))) (tV (e2 oGt (eCall 2 m__law_grind (aCons (eV 0) (aCons (eC (.int 4)) aNil))) (eC (.int 0)))))) (sExpr (eM isL mApp (eV 3) (aCons (eV 6) aNil))) sNil))))
    (sRet (eN mkT (aCons (eV 2) (aCons (eV 3) aNil))))))
noncomputable def m__law_chain : Fn := fz (runD 7 b__law_chain)
noncomputable def b__law_in_all : Sm := (sSeq (sFor (iSeq (eCall 2 m__law_herds (aCons (eN bLen (aCons (e2 oIx (eV 0) (eC (.int 0))) aNil)) (aCons (eC (.int 4)) aNil)))) (gN 2) (sSeq (sSet 3 (eCall 3 m__law_turned_to (aCons (eV 0) (aCons (eV 2) (aCons (eV 1) aNil)))))
    (sIf (tAndD (tV (e2 oIsNot (eV 3) (eC .non))) (tV (e2 oNotIn (eV 3) (eCall 2 m__law_all_behind (aCons (eV 0) (aCons (eV 2) aNil)))))) (sRet (eC (.bl false))) sNil)))
    (sRet (eC (.bl true))))
noncomputable def m__law_in_all : Fn := fz (runD 4 b__law_in_all)
noncomputable def b__law_right_k24 : Sm := (sSeq (sSet 1 (eCall 3 m__law_manual (aCons (eV 0) (aCons (e2 oIx (eN mkL (aCons (eC (.int 3)) (aCons (eC (.int 3)) (aCons (eC (.int 8)) aNil)))) (eCall 2 m__law_grind (aCons (eV 0) (aCons (eC (.int 3)) aNil)))) (aCons (eC (.int 5)) aNil)))))
    (sSeq (sSet 1 (eIf (tV (e2 oEq (eCall 2 m__law_grind (aCons (eV 0) (aCons (eC (.int 2)) aNil))) (eC (.int 0)))) (eCall 2 m__law_chain (aCons (eV 0) (aCons (eV 1) aNil))) (eV 1)))
    (sSeq (sPar 2 3 (aCons (eCall 1 m__law_code (aCons (eV 1) aNil)) (aCons (eN mkC aNil) aNil)))
    (sSeq (sFor (iSeq (e2 oIx (eV 1) (eC (.int 0)))) (gN 4) (sFor (iSeq (e2 oIx (eV 1) (eC (.int 0)))) (gN 5) (sSet 3 (e2 oAddC (eV 3) (eLc (iSeq (e2 oIx (eV 1) (eC (.int 0)))) (gN 12) (tV (e2 oNe (eV 12) (eV 4))) (eN mkT (aCons (eV 4) (aCons (eV 5) (aCons (eV 12) aNil)))) [12])))))
    (sSeq (sFor (iRg1 (aCons (eC (.int 8)) aNil)) (gN 6) (sIf (tV (e2 oNe (eV 3) (eN mkL aNil))) (sSeq (sSet 7 (eM isL mPopAt (eV 3) (aCons (eCall 2 m__law_grind (aCons (eV 0) (aCons (eN bLen (aCons (eV 3) aNil)) aNil))) aNil)))
    (sSeq (sSet 8 (eCall 2 m__law_comes (aCons (eV 1) (aCons (eV 7) aNil))))
    (sSeq (sIf (tV (e2 oNe (eN bRepr (aCons (eN mkL (aCons (eCall 2 m_follows (aCons (eV 2) (aCons (eV 7) aNil))) (aCons (eCallK 2 (fun ds es S => m_follows (pick [1, 0] (ds ++ es)) S) (aCons (eV 7) (aCons (eV 2) aNil))) aNil))) aNil)) (eN bRepr (aCons (eN mkL (aCons (eV 8) (aCons (eV 8) aNil))) aNil)))) (sRet (eC (.bl false))) sNil)
    (sIf (tAndD (tV (e2 oEq (eV 6) (eC (.int 0)))) (tAndD (tV (e2 oLt (eN bLen (aCons (e2 oIx (eV 1) (eC (.int 0))) aNil)) (eC (.int 4)))) (tV (e2 oNe (eCall 2 m__law_in_all (aCons (eV 1) (aCons (eV 7) aNil))) (eV 8))))) (sRet (eC (.bl false))) sNil)))) sNil))
    (sSeq (sFor (iSeq (eSl (e2 oIx (eV 1) (eC (.int 1))) xNone (xSome (eC (.int 3))))) (gN 9) (sSeq (sPar 10 11 (aCons (eN mkT (aCons (e2 oIx (eV 1) (eC (.int 0))) (aCons (eLc (iSeq (e2 oIx (eV 1) (eC (.int 1)))) (gN 13) (tV (e2 oNe (eV 13) (eV 9))) (eV 13) [13]) aNil))) (aCons (eMth 0 "without" 1 m_Book_without (eV 2) (aCons (eV 9) aNil)) aNil)))
    (sFor (iSeq (e2 oAdd (e2 oAdd (eN mkL (aCons (eV 9) aNil)) (eSl (e2 oIx (eV 1) (eC (.int 1))) (xSome (e1 uNeg (eC (.int 2)))) xNone)) (eSl (eV 3) xNone (xSome (eC (.int 3)))))) (gN 7) (sIf (tV (e2 oNe (eCall 2 m_follows (aCons (eV 11) (aCons (eV 7) aNil))) (eCall 2 m__law_comes (aCons (eV 10) (aCons (eV 7) aNil))))) (sRet (eC (.bl false))) sNil))))
    (sRet (e2 (oOwn 0 m_Book_eq id) (eV 2) (eCall 1 m__law_code (aCons (eV 1) aNil))))))))))
noncomputable def m__law_right_k24 : Fn := fz (runD 14 b__law_right_k24)
noncomputable def b_law_k24 : Sm := (sSeq (sFor (iRg1 (aCons (eN bMin (aCons (eC (.int 10)) (aCons (eN bMax (aCons (eC (.int 1)) (aCons (eN bLen (aCons (eV 0) aNil)) aNil))) aNil))) aNil)) (gN 1) (sSeq (sSet 2 (eCall 2 m__law_mill (aCons (eV 0) (aCons (eV 1) aNil))))
    (sIf (tNotD (tV (eCall 1 m__law_right_k24 (aCons (eV 2) aNil)))) (sRet (eC (.bl false))) sNil)))
    (sRet (eC (.bl true))))
noncomputable def m_law_k24 : Fn := fz (runD 3 b_law_k24)
end DL

/-! law_k24_rules_that_follow: the derivations. -/
namespace DL
open PySem PySem.Spec PyProof.Rows L2
def ttop (i : Nat) : Stmt := PySem.Challenge.pw_lookcrowd_k24_rules_that_follow.main.body.getD i (.Pass ⟨0, 0, 0, 0⟩)
abbrev s__law_mill : Stmt := ttop 20
abbrev s__law_grind : Stmt := ttop 21
abbrev s__law_tribes : Stmt := ttop 22
abbrev s__law_manual : Stmt := ttop 23
abbrev s__law_chain : Stmt := ttop 31
abbrev s_is_name : Stmt := ttop 8
abbrev s_check_kinds : Stmt := ttop 9
abbrev s_check_rule : Stmt := ttop 10
abbrev s_Book_init : Stmt := inClass (ttop 11) 0
abbrev s__law_code : Stmt := ttop 24
abbrev s__law_pair : Stmt := ttop 29
abbrev s__law_turned_to : Stmt := ttop 27
abbrev s__law_all_behind : Stmt := ttop 28
abbrev s__law_comes : Stmt := ttop 30
abbrev s_two_of : Stmt := ttop 16
abbrev s_moved : Stmt := ttop 14
abbrev s_reached : Stmt := ttop 15
abbrev s_follows_from : Stmt := ttop 17
abbrev s_places_of : Stmt := ttop 12
abbrev s_moves_of : Stmt := ttop 13
abbrev s_follows : Stmt := ttop 18
abbrev s__law_herds : Stmt := ttop 32
abbrev s__law_in_all : Stmt := ttop 33
abbrev s_Book_kinds : Stmt := inClass (ttop 11) 1
abbrev s_Book_without : Stmt := inClass (ttop 11) 3
abbrev s_Book_eq : Stmt := inClass (ttop 11) 5
abbrev s__law_right : Stmt := ttop 34
abbrev s_law : Stmt := ttop 35
abbrev s_err : Stmt := inClass (ttop 1) 0
structure Txt (K : PySem.W.Frag) (mg : Str → Option Value) (γ : Nat → Addr) : Prop where
  n_range : mg "range" = none
  n_len : mg "len" = none
  n_max : mg "max" = none
  n_min : mg "min" = none
  n_abs : mg "abs" = none
  n_int : mg "int" = none
  n_list : mg "list" = none
  k_LETTERS : ∃ t, mg "LETTERS" = some (.str "abcdefghijklmnopqrstuvwxyz" t)
  n_all : mg "all" = none
  n_any : mg "any" = none
  c_Book : Cls K (γ 0)
  a_Book_kept_kinds : NoAttr K (γ 0) "kept_kinds"
  n_tuple : mg "tuple" = none
  n_sorted : mg "sorted" = none
  a_Book_kept_rules : NoAttr K (γ 0) "kept_rules"
  n_enumerate : mg "enumerate" = none
  n_repr : mg "repr" = none
  n_sum : mg "sum" = none
  n_isinstance : mg "isinstance" = none
  i_Book : IsC K (γ 0)
  m_Book : mg "Book" = some (.ref (γ 0))
section
variable {γ : Nat → Addr} {P : Program} {w : World} {K : PySem.W.Frag} {mg : Str → Option Value} {base : Heap}
theorem sc__law_mill : FnScope ["script", "place", "cell", "left"] ["script", "place"] (defScope s__law_mill) := ⟨rfl, rfl, rfl, by decide +kernel, rfl, by decide +kernel, by decide +kernel⟩
theorem ok__law_mill (T : Txt K mg γ)  {f : Addr} {fd : FuncData} (F : Fun K "_law_mill" "_law_mill" s__law_mill f fd) : FnG P w K mg base 1 f fd ["script", "place"] (spD ⟨K, γ⟩ 2 (runD 4 b__law_mill)) :=
  def_ok F sc__law_mill (k := 0) (by
    rintro X W rfl rfl rfl rfl rfl c
    exact (dss_cons (ds_set 2 c de_int)
    (dss_cons (ds_if (dt_cmp od_lt (de_var 1 c.toCtx) (de_bu bu_len rfl c.toCtx T.n_len PyProof.Rows.Boot.«len» (da_cons (de_var 0 c.toCtx) da_nil))) (dss_one (ds_set 2 c (de_ix (de_var 0 c.toCtx) (de_var 1 c.toCtx)))) dss_nil)
    (dss_cons (ds_set 3 c de_int)
    (dss_cons (ds_if (dt_cmp od_gt (de_var 2 c.toCtx) (de_op od_pow de_int de_int)) (dss_one (ds_set 3 c (de_op od_div (de_var 2 c.toCtx) de_int))) dss_nil)
    (dss_one (ds_ret (de_cell (da_cons (de_var 3 c.toCtx) (da_cons (de_op od_add (de_op od_mul de_int (de_op od_add (de_var 1 c.toCtx) de_int)) (de_op od_mod (de_ty bu_int rfl c.toCtx T.n_int PyProof.Rows.Boot.«int» (da_cons (de_bu bu_abs rfl c.toCtx T.n_abs PyProof.Rows.Boot.«abs» (da_cons (de_var 2 c.toCtx) da_nil)) da_nil)) de_int)) da_nil))))))))))
theorem sc__law_grind : FnScope ["mill", "count", "drop"] ["mill", "count"] (defScope s__law_grind) := ⟨rfl, rfl, rfl, by decide +kernel, rfl, by decide +kernel, by decide +kernel⟩
theorem ok__law_grind (T : Txt K mg γ)  {f : Addr} {fd : FuncData} (F : Fun K "_law_grind" "_law_grind" s__law_grind f fd) : FnG P w K mg base 1 f fd ["mill", "count"] (spD ⟨K, γ⟩ 2 (runD 3 b__law_grind)) :=
  def_ok F sc__law_grind (k := 0) (by
    rintro X W rfl rfl rfl rfl rfl c
    exact (dss_cons (ds_if (dt_cmp od_gt (de_ix (de_var 0 c.toCtx) de_int) de_int) (dss_cons (ds_set 2 c (de_op od_mod (de_ty bu_int rfl c.toCtx T.n_int PyProof.Rows.Boot.«int» (da_cons (de_ix (de_var 0 c.toCtx) de_int) da_nil)) (de_var 1 c.toCtx)))
    (dss_cons (ds_asg (de_op od_div (de_ix (de_var 0 c.toCtx) de_int) (de_var 1 c.toCtx)) (dg_ix (de_var 0 c.toCtx) de_int))
    (dss_one (ds_ret (de_var 2 c.toCtx))))) dss_nil)
    (dss_cons (ds_asg (de_op od_mod (de_ty bu_int rfl c.toCtx T.n_int PyProof.Rows.Boot.«int» (da_cons (de_op od_add (de_op od_mul (de_ix (de_var 0 c.toCtx) de_int) de_int) de_int) da_nil)) de_int) (dg_ix (de_var 0 c.toCtx) de_int))
    (dss_one (ds_ret (de_op od_mod (de_ty bu_int rfl c.toCtx T.n_int PyProof.Rows.Boot.«int» (da_cons (de_op od_div (de_ix (de_var 0 c.toCtx) de_int) de_int) da_nil)) (de_var 1 c.toCtx)))))))
theorem sc__law_tribes : FnScope ["mill", "count", "rows_here", "left", "found", "turn"] ["mill", "count"] (defScope s__law_tribes) := ⟨rfl, rfl, rfl, by decide +kernel, rfl, by decide +kernel, by decide +kernel⟩
theorem ok__law_tribes (T : Txt K mg γ) (h__law_grind : Cal γ P w K mg base "_law_grind" 1 2 m__law_grind) {f : Addr} {fd : FuncData} (F : Fun K "_law_tribes" "_law_tribes" s__law_tribes f fd) : FnG P w K mg base 2 f fd ["mill", "count"] (spD ⟨K, γ⟩ 2 (runD 6 b__law_tribes)) :=
  def_ok F sc__law_tribes (k := 1) (by
    rintro X W rfl rfl rfl rfl rfl c
    exact (dss_cons (ds_set 2 c (de_cell (da_cons (de_lst (da_cons de_str (da_cons de_str (da_cons de_str (da_cons de_str (da_cons de_str (da_cons de_str (da_cons de_str (da_cons de_str da_nil))))))))) da_nil)))
    (dss_cons (ds_expr (de_append (de_var 2 c.toCtx) (da_cons (de_lst (da_cons de_str (da_cons de_str (da_cons de_str (da_cons de_str (da_cons de_str (da_cons de_str (da_cons de_str (da_cons de_str da_nil))))))))) da_nil)))
    (dss_cons (ds_expr (de_append (de_var 2 c.toCtx) (da_cons (de_lst (da_cons de_str (da_cons de_str (da_cons de_str (da_cons de_str (da_cons de_str (da_cons de_str (da_cons de_str (da_cons de_str da_nil))))))))) da_nil)))
    (dss_cons (ds_par 3 4 c (da_cons (de_ty bu_listC rfl c.toCtx T.n_list PyProof.Rows.Boot.«list» (da_cons (de_ix (de_var 2 c.toCtx) (de_call c.toCtx h__law_grind (by decide) rfl (da_cons (de_var 0 c.toCtx) (da_cons de_int da_nil)))) da_nil)) (da_cons (de_cell da_nil) da_nil)) (hw := sw_par c))
    (dss_cons (ds_for c (di_range1 c.toCtx T.n_range (da_cons (de_var 1 c.toCtx) da_nil)) (dg_name 5 c) (dss_one (ds_expr (de_append (de_var 4 c.toCtx) (da_cons (de_popAt (de_var 3 c.toCtx) (da_cons (de_call c.toCtx h__law_grind (by decide) rfl (da_cons (de_var 0 c.toCtx) (da_cons (de_bu bu_len rfl c.toCtx T.n_len PyProof.Rows.Boot.«len» (da_cons (de_var 3 c.toCtx) da_nil)) da_nil))) da_nil)) da_nil)))))
    (dss_one (ds_ret (de_var 4 c.toCtx)))))))))
theorem sc__law_manual : FnScope ["mill", "most", "count", "kinds_here", "found", "every", "who", "whom", "turn", "what"] ["mill", "most", "count"] (defScope s__law_manual) := ⟨rfl, rfl, rfl, by decide +kernel, rfl, by decide +kernel, by decide +kernel⟩
theorem ok__law_manual (T : Txt K mg γ) (h__law_tribes : Cal γ P w K mg base "_law_tribes" 2 2 m__law_tribes) (h__law_grind : Cal γ P w K mg base "_law_grind" 1 2 m__law_grind) {f : Addr} {fd : FuncData} (F : Fun K "_law_manual" "_law_manual" s__law_manual f fd) : FnG P w K mg base 3 f fd ["mill", "most", "count"] (spD ⟨K, γ⟩ 3 (runD 10 b__law_manual)) :=
  def_ok F sc__law_manual (k := 2) (by
    rintro X W rfl rfl rfl rfl rfl c
    exact (dss_cons (ds_par 3 4 c (da_cons (de_call c.toCtx h__law_tribes (by decide) rfl (da_cons (de_var 0 c.toCtx) (da_cons (de_op od_add de_int (de_call c.toCtx h__law_grind (by decide) rfl (da_cons (de_var 0 c.toCtx) (da_cons (de_var 1 c.toCtx) da_nil)))) da_nil))) (da_cons (de_cell da_nil) da_nil)) (hw := sw_par c))
    (dss_cons (ds_set 5 c (de_cell da_nil))
    (dss_cons (ds_for c (di_seq (de_var 3 c.toCtx)) (dg_name 6 c) (dss_one (ds_for c (di_seq (de_var 3 c.toCtx)) (dg_name 7 c) (dss_one (ds_set 5 c (de_op od_addC (de_var 5 c.toCtx) (de_lc [("what", 9)] c.toCtx (di_seq (de_var 3 c.toCtx)) (by decide +kernel) (fun s1 H1 C1 cl1 fp1 => (wg_name 9 (c.toCtx.blk s1 H1 _ C1 cl1 fp1))) (fun s1 H1 C1 cl1 fp1 => (dts_one (dt_cmp (od_ne (c.toCtx.blk s1 H1 _ C1 cl1 fp1)) (de_var 9 (c.toCtx.blk s1 H1 _ C1 cl1 fp1)) (de_var 6 (c.toCtx.blk s1 H1 _ C1 cl1 fp1))))) (fun s1 H1 C1 cl1 fp1 => (de_tup (da_cons (de_var 6 (c.toCtx.blk s1 H1 _ C1 cl1 fp1)) (da_cons (de_var 7 (c.toCtx.blk s1 H1 _ C1 cl1 fp1)) (da_cons (de_var 9 (c.toCtx.blk s1 H1 _ C1 cl1 fp1)) da_nil))))))))))))
    (dss_cons (ds_for c (di_range1 c.toCtx T.n_range (da_cons (de_call c.toCtx h__law_grind (by decide) rfl (da_cons (de_var 0 c.toCtx) (da_cons (de_op od_add (de_var 2 c.toCtx) de_int) da_nil))) da_nil)) (dg_name 8 c) (dss_one (ds_if (dt_cmp (od_ne c.toCtx) (de_var 5 c.toCtx) (de_lst da_nil)) (dss_one (ds_expr (de_append (de_var 4 c.toCtx) (da_cons (de_popAt (de_var 5 c.toCtx) (da_cons (de_call c.toCtx h__law_grind (by decide) rfl (da_cons (de_var 0 c.toCtx) (da_cons (de_bu bu_len rfl c.toCtx T.n_len PyProof.Rows.Boot.«len» (da_cons (de_var 5 c.toCtx) da_nil)) da_nil))) da_nil)) da_nil)))) dss_nil)))
    (dss_one (ds_ret (de_tup (da_cons (de_var 3 c.toCtx) (da_cons (de_var 4 c.toCtx) da_nil))))))))))
theorem sc__law_chain : FnScope ["mill", "plan", "kinds_here", "found", "at", "whom", "rule_here"] ["mill", "plan"] (defScope s__law_chain) := ⟨rfl, rfl, rfl, by decide +kernel, rfl, by decide +kernel, by decide +kernel⟩
theorem ok__law_chain (T : Txt K mg γ) (h__law_grind : Cal γ P w K mg base "_law_grind" 1 2 m__law_grind) {f : Addr} {fd : FuncData} (F : Fun K "_law_chain" "_law_chain" s__law_chain f fd) : FnG P w K mg base 2 f fd ["mill", "plan"] (spD ⟨K, γ⟩ 2 (runD 7 b__law_chain)) :=
  def_ok F sc__law_chain (k := 1) (by
    rintro X W rfl rfl rfl rfl rfl c
    exact (dss_cons (ds_par 2 3 c (da_cons (de_ix (de_var 1 c.toCtx) de_int) (da_cons (de_ty bu_listC rfl c.toCtx T.n_list PyProof.Rows.Boot.«list» (da_cons (de_ix (de_var 1 c.toCtx) de_int) da_nil)) da_nil)) (hw := sw_par c))
    (dss_cons (ds_for c (di_range1 c.toCtx T.n_range (da_cons (de_op od_sub (de_bu bu_len rfl c.toCtx T.n_len PyProof.Rows.Boot.«len» (da_cons (de_var 2 c.toCtx) da_nil)) de_int) da_nil)) (dg_name 4 c) (dss_cons (ds_set 5 c (de_ix (de_var 2 c.toCtx) (de_ix (de_lst (da_cons (de_var 4 c.toCtx) (da_cons (de_op od_add (de_var 4 c.toCtx) de_int) (da_cons de_int (da_cons (de_op od_sub (de_bu bu_len rfl c.toCtx T.n_len PyProof.Rows.Boot.«len» (da_cons (de_var 2 c.toCtx) da_nil)) de_int) da_nil))))) (de_call c.toCtx h__law_grind (by decide) rfl (da_cons (de_var 0 c.toCtx) (da_cons de_int da_nil))))))
    (dss_cons (ds_set 6 c (de_tup (da_cons (de_ix (de_var 2 c.toCtx) (de_var 4 c.toCtx)) (da_cons (de_var 5 c.toCtx) (da_cons (de_ix (de_var 2 c.toCtx) (de_op od_add (de_var 4 c.toCtx) de_int)) da_nil)))))
    (dss_one (ds_if (dw_t (dw_and (dt_cmp (od_notIn c.toCtx) (de_var 6 c.toCtx) (de_var 3 c.toCtx)) (dw_and (dt_cmp od_lt (de_bu bu_len rfl c.toCtx T.n_len PyProof.Rows.Boot.«len» (da_cons (de_var 3 c.toCtx) da_nil)) de_int) (dw_and1 (dt_cmp od_gt (de_call c.toCtx h__law_grind (by decide) rfl (da_cons (de_var 0 c.toCtx) (da_cons de_int da_nil))) de_int))))) (dss_one (ds_expr (de_append (de_var 3 c.toCtx) (da_cons (de_var 6 c.toCtx) da_nil)))) dss_nil)))))
    (dss_one (ds_ret (de_tup (da_cons (de_var 2 c.toCtx) (da_cons (de_var 3 c.toCtx) da_nil))))))))
theorem sc_is_name : FnScope ["name", "letter"] ["name"] (defScope s_is_name) := ⟨rfl, rfl, rfl, by decide +kernel, rfl, by decide +kernel, by decide +kernel⟩
theorem ok_is_name (T : Txt K mg γ)  {f : Addr} {fd : FuncData} (F : Fun K "is_name" "is_name" s_is_name f fd) : FnG P w K mg base 1 f fd ["name"] (spD ⟨K, γ⟩ 1 (runD 2 b_is_name)) :=
  def_ok F sc_is_name (k := 0) (by
    rintro X W rfl rfl rfl rfl rfl c
    exact (dss_one (ds_ret (de_and (de_chain op_le op_le de_int (de_bu bu_len rfl c.toCtx T.n_len PyProof.Rows.Boot.«len» (da_cons (de_var 0 c.toCtx) da_nil)) de_int) (de_one (de_bu (bu_all c.toCtx) rfl c.toCtx T.n_all PyProof.Rows.Boot.«all» (da_cons (de_lc [("letter", 1)] c.toCtx (di_seq (de_var 0 c.toCtx)) (by decide +kernel) (fun s1 H1 C1 cl1 fp1 => (wg_name 1 (c.toCtx.blk s1 H1 _ C1 cl1 fp1))) (fun s1 H1 C1 cl1 fp1 => dts_nil) (fun s1 H1 C1 cl1 fp1 => (de_cmp (od_in (c.toCtx.blk s1 H1 _ C1 cl1 fp1)) (de_var 1 (c.toCtx.blk s1 H1 _ C1 cl1 fp1)) (de_gstr (c.toCtx.blk s1 H1 _ C1 cl1 fp1).hsc T.k_LETTERS)))) da_nil)))))))
theorem sc_check_kinds : FnScope ["names", "known", "name"] ["names"] (defScope s_check_kinds) := ⟨rfl, rfl, rfl, by decide +kernel, rfl, by decide +kernel, by decide +kernel⟩
theorem ok_check_kinds (T : Txt K mg γ) (h_is_name : Cal γ P w K mg base "is_name" 1 1 m_is_name) (r_InvalidName : Rai γ P w K mg base "InvalidName" 8 1) (r_DoubleName : Rai γ P w K mg base "DoubleName" 3 1) {f : Addr} {fd : FuncData} (F : Fun K "check_kinds" "check_kinds" s_check_kinds f fd) : FnG P w K mg base 3 f fd ["names"] (spD ⟨K, γ⟩ 1 (runD 3 b_check_kinds)) :=
  def_ok F sc_check_kinds (k := 2) (by
    rintro X W rfl rfl rfl rfl rfl c
    exact (dss_cons (ds_set 1 c (de_cell da_nil))
    (dss_one (ds_for c (di_seq (de_var 0 c.toCtx)) (dg_name 2 c) (dss_cons (ds_if (dt_not (dt_val (de_call c.toCtx h_is_name (by decide) rfl (da_cons (de_var 2 c.toCtx) da_nil)))) (dss_one (ds_raise c.toCtx r_InvalidName (by decide) rfl (de_var 2 c.toCtx))) dss_nil)
    (dss_cons (ds_if (dt_cmp (od_in c.toCtx) (de_var 2 c.toCtx) (de_var 1 c.toCtx)) (dss_one (ds_raise c.toCtx r_DoubleName (by decide) rfl (de_var 2 c.toCtx))) dss_nil)
    (dss_one (ds_expr (de_append (de_var 1 c.toCtx) (da_cons (de_var 2 c.toCtx) da_nil))))))))))
theorem sc_check_rule : FnScope ["names", "rule", "name"] ["names", "rule"] (defScope s_check_rule) := ⟨rfl, rfl, rfl, by decide +kernel, rfl, by decide +kernel, by decide +kernel⟩
theorem ok_check_rule (T : Txt K mg γ) (r_InvalidRule : Rai γ P w K mg base "InvalidRule" 9 1) {f : Addr} {fd : FuncData} (F : Fun K "check_rule" "check_rule" s_check_rule f fd) : FnG P w K mg base 3 f fd ["names", "rule"] (spD ⟨K, γ⟩ 2 (runD 3 b_check_rule)) :=
  def_ok F sc_check_rule (k := 2) (by
    rintro X W rfl rfl rfl rfl rfl c
    exact (dss_one (ds_if (dw_t (dw_or (dt_val (de_bu (bu_any c.toCtx) rfl c.toCtx T.n_any PyProof.Rows.Boot.«any» (da_cons (de_lc [("name", 2)] c.toCtx (di_seq (de_var 1 c.toCtx)) (by decide +kernel) (fun s1 H1 C1 cl1 fp1 => (wg_name 2 (c.toCtx.blk s1 H1 _ C1 cl1 fp1))) (fun s1 H1 C1 cl1 fp1 => dts_nil) (fun s1 H1 C1 cl1 fp1 => (de_cmp (od_notIn (c.toCtx.blk s1 H1 _ C1 cl1 fp1)) (de_var 2 (c.toCtx.blk s1 H1 _ C1 cl1 fp1)) (de_var 0 (c.toCtx.blk s1 H1 _ C1 cl1 fp1))))) da_nil))) (dw_or1 (dt_cmp (od_eq c.toCtx) (de_ix (de_var 1 c.toCtx) de_int) (de_ix (de_var 1 c.toCtx) de_int))))) (dss_one (ds_raise c.toCtx r_InvalidRule (by decide) rfl (de_var 1 c.toCtx))) dss_nil)))
theorem sc_Book_init : FnScope ["self", "kinds", "rules", "known", "rule", "ranked", "places", "name", "place"] ["self", "kinds", "rules"] (defScope s_Book_init) := ⟨rfl, rfl, rfl, by decide +kernel, rfl, by decide +kernel, by decide +kernel⟩
theorem ok_Book_init (T : Txt K mg γ) (h_check_kinds : Cal γ P w K mg base "check_kinds" 3 1 m_check_kinds) (h_check_rule : Cal γ P w K mg base "check_rule" 3 2 m_check_rule) (r_DoubleRule : Rai γ P w K mg base "DoubleRule" 4 1) {f : Addr} {fd : FuncData} (F : Fun K "__init__" "Book.__init__" s_Book_init f fd) : FnG P w K mg base 4 f fd ["self", "kinds", "rules"] (spD ⟨K, γ⟩ 3 (runD 9 b_Book_init)) :=
  def_ok F sc_Book_init (k := 3) (by
    rintro X W rfl rfl rfl rfl rfl c
    exact (dss_cons (ds_expr (de_call c.toCtx h_check_kinds (by decide) rfl (da_cons (de_var 1 c.toCtx) da_nil)))
    (dss_cons (ds_set 3 c (de_cell da_nil))
    (dss_cons (ds_for c (di_seq (de_var 2 c.toCtx)) (dg_name 4 c) (dss_cons (ds_expr (de_call c.toCtx h_check_rule (by decide) rfl (da_cons (de_var 1 c.toCtx) (da_cons (de_var 4 c.toCtx) da_nil))))
    (dss_cons (ds_if (dt_cmp (od_in c.toCtx) (de_var 4 c.toCtx) (de_var 3 c.toCtx)) (dss_one (ds_raise c.toCtx r_DoubleRule (by decide) rfl (de_var 4 c.toCtx))) dss_nil)
    (dss_one (ds_expr (de_append (de_var 3 c.toCtx) (da_cons (de_var 4 c.toCtx) da_nil)))))))
    (dss_cons (ds_fld 0 T.c_Book T.a_Book_kept_kinds (de_var 0 c.toCtx) (de_ty bu_tupleK rfl c.toCtx T.n_tuple PyProof.Rows.Boot.«tuple» (da_cons (de_var 1 c.toCtx) da_nil)))
    (dss_cons (ds_set 5 c (de_bu (bu_sorted c.toCtx) rfl c.toCtx T.n_sorted PyProof.Rows.Boot.«sorted» (da_cons (de_lc [("rule", 4)] c.toCtx (di_seq (de_var 2 c.toCtx)) (by decide +kernel) (fun s1 H1 C1 cl1 fp1 => (wg_name 4 (c.toCtx.blk s1 H1 _ C1 cl1 fp1))) (fun s1 H1 C1 cl1 fp1 => dts_nil) (fun s1 H1 C1 cl1 fp1 => (de_ty bu_tuple rfl (c.toCtx.blk s1 H1 _ C1 cl1 fp1) T.n_tuple PyProof.Rows.Boot.«tuple» (da_cons (de_lc [("name", 7)] (c.toCtx.blk s1 H1 _ C1 cl1 fp1) (di_seq (de_var 4 (c.toCtx.blk s1 H1 _ C1 cl1 fp1))) (by decide +kernel) (fun s2 H2 C2 cl2 fp2 => (wg_name 7 ((c.toCtx.blk s1 H1 _ C1 cl1 fp1).blk s2 H2 _ C2 cl2 fp2))) (fun s2 H2 C2 cl2 fp2 => dts_nil) (fun s2 H2 C2 cl2 fp2 => (de_index ((c.toCtx.blk s1 H1 _ C1 cl1 fp1).blk s2 H2 _ C2 cl2 fp2) (de_var 1 ((c.toCtx.blk s1 H1 _ C1 cl1 fp1).blk s2 H2 _ C2 cl2 fp2)) (da_cons (de_var 7 ((c.toCtx.blk s1 H1 _ C1 cl1 fp1).blk s2 H2 _ C2 cl2 fp2)) da_nil)))) da_nil)))) da_nil)))
    (dss_one (ds_fld 0 T.c_Book T.a_Book_kept_rules (de_var 0 c.toCtx) (de_ty bu_tuple rfl c.toCtx T.n_tuple PyProof.Rows.Boot.«tuple» (da_cons (de_lc [("places", 6)] c.toCtx (di_seq (de_var 5 c.toCtx)) (by decide +kernel) (fun s1 H1 C1 cl1 fp1 => (wg_name 6 (c.toCtx.blk s1 H1 _ C1 cl1 fp1))) (fun s1 H1 C1 cl1 fp1 => dts_nil) (fun s1 H1 C1 cl1 fp1 => (de_ty bu_tuple rfl (c.toCtx.blk s1 H1 _ C1 cl1 fp1) T.n_tuple PyProof.Rows.Boot.«tuple» (da_cons (de_lc [("place", 8)] (c.toCtx.blk s1 H1 _ C1 cl1 fp1) (di_seq (de_var 6 (c.toCtx.blk s1 H1 _ C1 cl1 fp1))) (by decide +kernel) (fun s2 H2 C2 cl2 fp2 => (wg_name 8 ((c.toCtx.blk s1 H1 _ C1 cl1 fp1).blk s2 H2 _ C2 cl2 fp2))) (fun s2 H2 C2 cl2 fp2 => dts_nil) (fun s2 H2 C2 cl2 fp2 => (de_ix (de_var 1 ((c.toCtx.blk s1 H1 _ C1 cl1 fp1).blk s2 H2 _ C2 cl2 fp2)) (de_var 8 ((c.toCtx.blk s1 H1 _ C1 cl1 fp1).blk s2 H2 _ C2 cl2 fp2))))) da_nil)))) da_nil))))))))))
theorem sc__law_code : FnScope ["plan"] ["plan"] (defScope s__law_code) := ⟨rfl, rfl, rfl, by decide +kernel, rfl, by decide +kernel, by decide +kernel⟩
theorem ok__law_code (T : Txt K mg γ) (h_Book : Cal γ P w K mg base "Book" 5 2 m_Book) {f : Addr} {fd : FuncData} (F : Fun K "_law_code" "_law_code" s__law_code f fd) : FnG P w K mg base 6 f fd ["plan"] (spD ⟨K, γ⟩ 1 (runD 1 b__law_code)) :=
  def_ok F sc__law_code (k := 5) (by
    rintro X W rfl rfl rfl rfl rfl c
    exact (dss_one (ds_ret (de_call c.toCtx h_Book (by decide) rfl (da_cons (de_ty bu_list rfl c.toCtx T.n_list PyProof.Rows.Boot.«list» (da_cons (de_ix (de_var 0 c.toCtx) de_int) da_nil)) (da_cons (de_ty bu_list rfl c.toCtx T.n_list PyProof.Rows.Boot.«list» (da_cons (de_ix (de_var 0 c.toCtx) de_int) da_nil)) da_nil))))))
theorem sc__law_pair : FnScope ["plan", "rule_here", "name"] ["plan", "rule_here"] (defScope s__law_pair) := ⟨rfl, rfl, rfl, by decide +kernel, rfl, by decide +kernel, by decide +kernel⟩
theorem ok__law_pair (T : Txt K mg γ)  {f : Addr} {fd : FuncData} (F : Fun K "_law_pair" "_law_pair" s__law_pair f fd) : FnG P w K mg base 1 f fd ["plan", "rule_here"] (spD ⟨K, γ⟩ 2 (runD 3 b__law_pair)) :=
  def_ok F sc__law_pair (k := 0) (by
    rintro X W rfl rfl rfl rfl rfl c
    exact (dss_one (ds_ret (de_lc [("name", 2)] c.toCtx (di_seq (de_ix (de_var 0 c.toCtx) de_int)) (by decide +kernel) (fun s1 H1 C1 cl1 fp1 => (wg_name 2 (c.toCtx.blk s1 H1 _ C1 cl1 fp1))) (fun s1 H1 C1 cl1 fp1 => dts_nil) (fun s1 H1 C1 cl1 fp1 => (de_op od_add (de_ty bu_int rfl (c.toCtx.blk s1 H1 _ C1 cl1 fp1) T.n_int PyProof.Rows.Boot.«int» (da_cons (de_cmp (od_eq (c.toCtx.blk s1 H1 _ C1 cl1 fp1)) (de_var 2 (c.toCtx.blk s1 H1 _ C1 cl1 fp1)) (de_ix (de_var 1 (c.toCtx.blk s1 H1 _ C1 cl1 fp1)) de_int)) da_nil)) (de_ty bu_int rfl (c.toCtx.blk s1 H1 _ C1 cl1 fp1) T.n_int PyProof.Rows.Boot.«int» (da_cons (de_cmp (od_eq (c.toCtx.blk s1 H1 _ C1 cl1 fp1)) (de_var 2 (c.toCtx.blk s1 H1 _ C1 cl1 fp1)) (de_ix (de_var 1 (c.toCtx.blk s1 H1 _ C1 cl1 fp1)) de_int)) da_nil))))))))
theorem sc__law_turned_to : FnScope ["plan", "herd", "rule_here", "first", "whom", "what", "name", "at", "number"] ["plan", "herd", "rule_here"] (defScope s__law_turned_to) := ⟨rfl, rfl, rfl, by decide +kernel, rfl, by decide +kernel, by decide +kernel⟩
theorem ok__law_turned_to (T : Txt K mg γ)  {f : Addr} {fd : FuncData} (F : Fun K "_law_turned_to" "_law_turned_to" s__law_turned_to f fd) : FnG P w K mg base 1 f fd ["plan", "herd", "rule_here"] (spD ⟨K, γ⟩ 3 (runD 9 b__law_turned_to)) :=
  def_ok F sc__law_turned_to (k := 0) (by
    rintro X W rfl rfl rfl rfl rfl c
    exact (dss_cons (ds_asg (de_lc [("name", 6)] c.toCtx (di_seq (de_var 2 c.toCtx)) (by decide +kernel) (fun s1 H1 C1 cl1 fp1 => (wg_name 6 (c.toCtx.blk s1 H1 _ C1 cl1 fp1))) (fun s1 H1 C1 cl1 fp1 => dts_nil) (fun s1 H1 C1 cl1 fp1 => (de_index (c.toCtx.blk s1 H1 _ C1 cl1 fp1) (de_ix (de_var 0 (c.toCtx.blk s1 H1 _ C1 cl1 fp1)) de_int) (da_cons (de_var 6 (c.toCtx.blk s1 H1 _ C1 cl1 fp1)) da_nil)))) (dg_unl 3 c (dgs_cons (dg_name 3 c) (dgs_cons (dg_name 4 c) (dgs_cons (dg_name 5 c) dgs_nil)))))
    (dss_cons (ds_if (dw_t (dw_or (dt_cmp od_lt (de_ix (de_var 1 c.toCtx) (de_var 3 c.toCtx)) de_int) (dw_or1 (dt_cmp od_lt (de_ix (de_var 1 c.toCtx) (de_var 4 c.toCtx)) (de_op od_add de_int (de_ty bu_int rfl c.toCtx T.n_int PyProof.Rows.Boot.«int» (da_cons (de_cmp (od_eq c.toCtx) (de_var 4 c.toCtx) (de_var 3 c.toCtx)) da_nil))))))) (dss_one (ds_ret de_non)) dss_nil)
    (dss_one (ds_ret (de_lc [("at", 7), ("number", 8)] c.toCtx (di_enum c.toCtx T.n_enumerate (da_cons (de_var 1 c.toCtx) da_nil)) (by decide +kernel) (fun s1 H1 C1 cl1 fp1 => (wg_tup 2 (c.toCtx.blk s1 H1 _ C1 cl1 fp1) (wgs_cons (wg_name 7 (c.toCtx.blk s1 H1 _ C1 cl1 fp1)) (wgs_cons (wg_name 8 (c.toCtx.blk s1 H1 _ C1 cl1 fp1)) wgs_nil)))) (fun s1 H1 C1 cl1 fp1 => dts_nil) (fun s1 H1 C1 cl1 fp1 => (de_op od_add (de_op od_sub (de_var 8 (c.toCtx.blk s1 H1 _ C1 cl1 fp1)) (de_ty bu_int rfl (c.toCtx.blk s1 H1 _ C1 cl1 fp1) T.n_int PyProof.Rows.Boot.«int» (da_cons (de_cmp (od_eq (c.toCtx.blk s1 H1 _ C1 cl1 fp1)) (de_var 7 (c.toCtx.blk s1 H1 _ C1 cl1 fp1)) (de_var 3 (c.toCtx.blk s1 H1 _ C1 cl1 fp1))) da_nil))) (de_ty bu_int rfl (c.toCtx.blk s1 H1 _ C1 cl1 fp1) T.n_int PyProof.Rows.Boot.«int» (da_cons (de_cmp (od_eq (c.toCtx.blk s1 H1 _ C1 cl1 fp1)) (de_var 7 (c.toCtx.blk s1 H1 _ C1 cl1 fp1)) (de_var 5 (c.toCtx.blk s1 H1 _ C1 cl1 fp1))) da_nil))))))))))
theorem sc__law_all_behind : FnScope ["plan", "herd", "found", "texts_here", "at", "rule_here", "behind"] ["plan", "herd"] (defScope s__law_all_behind) := ⟨rfl, rfl, rfl, by decide +kernel, rfl, by decide +kernel, by decide +kernel⟩
theorem ok__law_all_behind (T : Txt K mg γ) (h__law_turned_to : Cal γ P w K mg base "_law_turned_to" 1 3 m__law_turned_to) {f : Addr} {fd : FuncData} (F : Fun K "_law_all_behind" "_law_all_behind" s__law_all_behind f fd) : FnG P w K mg base 2 f fd ["plan", "herd"] (spD ⟨K, γ⟩ 2 (runD 7 b__law_all_behind)) :=
  def_ok F sc__law_all_behind (k := 1) (by
    rintro X W rfl rfl rfl rfl rfl c
    exact (dss_cons (ds_par3 2 3 4 c (da_cons (de_cell (da_cons (de_ty bu_list rfl c.toCtx T.n_list PyProof.Rows.Boot.«list» (da_cons (de_var 1 c.toCtx) da_nil)) da_nil)) (da_cons (de_dik1 (de_bu (bu_repr c.toCtx) rfl c.toCtx T.n_repr PyProof.Rows.Boot.«repr» (da_cons (de_ty bu_list rfl c.toCtx T.n_list PyProof.Rows.Boot.«list» (da_cons (de_var 1 c.toCtx) da_nil)) da_nil)) de_int) (da_cons de_int da_nil))) (hw := sw_par3 c))
    (dss_cons (ds_while c (dt_cmp od_lt (de_var 4 c.toCtx) (de_bu bu_len rfl c.toCtx T.n_len PyProof.Rows.Boot.«len» (da_cons (de_var 2 c.toCtx) da_nil))) (dss_cons (ds_for c (di_seq (de_ix (de_var 0 c.toCtx) de_int)) (dg_name 5 c) (dss_cons (ds_set 6 c (de_call c.toCtx h__law_turned_to (by decide) rfl (da_cons (de_var 0 c.toCtx) (da_cons (de_ix (de_var 2 c.toCtx) (de_var 4 c.toCtx)) (da_cons (de_var 5 c.toCtx) da_nil)))))
    (dss_one (ds_if (dw_t (dw_and (dt_cmp od_isNot (de_var 6 c.toCtx) de_non) (dw_and1 (dt_cmp (od_notInM c.toCtx) (de_bu (bu_repr c.toCtx) rfl c.toCtx T.n_repr PyProof.Rows.Boot.«repr» (da_cons (de_var 6 c.toCtx) da_nil)) (de_var 3 c.toCtx))))) (dss_cons (ds_putM c (de_var 3 c.toCtx) (de_bu (bu_repr c.toCtx) rfl c.toCtx T.n_repr PyProof.Rows.Boot.«repr» (da_cons (de_var 6 c.toCtx) da_nil)) de_int)
    (dss_one (ds_expr (de_append (de_var 2 c.toCtx) (da_cons (de_var 6 c.toCtx) da_nil))))) dss_nil))))
    (dss_one (ds_set 4 c (de_op od_add (de_var 4 c.toCtx) de_int)))))
    (dss_one (ds_ret (de_var 2 c.toCtx))))))
theorem sc__law_comes : FnScope ["plan", "rule_here", "herd"] ["plan", "rule_here"] (defScope s__law_comes) := ⟨rfl, rfl, rfl, by decide +kernel, rfl, by decide +kernel, by decide +kernel⟩
theorem ok__law_comes (T : Txt K mg γ) (h__law_pair : Cal γ P w K mg base "_law_pair" 1 2 m__law_pair) (h__law_turned_to : Cal γ P w K mg base "_law_turned_to" 1 3 m__law_turned_to) (h__law_all_behind : Cal γ P w K mg base "_law_all_behind" 2 2 m__law_all_behind) {f : Addr} {fd : FuncData} (F : Fun K "_law_comes" "_law_comes" s__law_comes f fd) : FnG P w K mg base 3 f fd ["plan", "rule_here"] (spD ⟨K, γ⟩ 2 (runD 3 b__law_comes)) :=
  def_ok F sc__law_comes (k := 2) (by
    rintro X W rfl rfl rfl rfl rfl c
    exact (dss_cons (ds_set 2 c (de_call c.toCtx h__law_pair (by decide) rfl (da_cons (de_var 0 c.toCtx) (da_cons (de_var 1 c.toCtx) da_nil))))
    (dss_one (ds_ret (de_cmp (od_in c.toCtx) (de_call c.toCtx h__law_turned_to (by decide) rfl (da_cons (de_var 0 c.toCtx) (da_cons (de_var 2 c.toCtx) (da_cons (de_var 1 c.toCtx) da_nil)))) (de_call c.toCtx h__law_all_behind (by decide) rfl (da_cons (de_var 0 c.toCtx) (da_cons (de_var 2 c.toCtx) da_nil))))))))
theorem sc_two_of : FnScope ["places", "many", "at"] ["places", "many"] (defScope s_two_of) := ⟨rfl, rfl, rfl, by decide +kernel, rfl, by decide +kernel, by decide +kernel⟩
theorem ok_two_of (T : Txt K mg γ)  {f : Addr} {fd : FuncData} (F : Fun K "two_of" "two_of" s_two_of f fd) : FnG P w K mg base 1 f fd ["places", "many"] (spD ⟨K, γ⟩ 2 (runD 3 b_two_of)) :=
  def_ok F sc_two_of (k := 0) (by
    rintro X W rfl rfl rfl rfl rfl c
    exact (dss_one (ds_ret (de_ty bu_tuple rfl c.toCtx T.n_tuple PyProof.Rows.Boot.«tuple» (da_cons (de_lc [("at", 2)] c.toCtx (di_range1 c.toCtx T.n_range (da_cons (de_var 1 c.toCtx) da_nil)) (by decide +kernel) (fun s1 H1 C1 cl1 fp1 => (wg_name 2 (c.toCtx.blk s1 H1 _ C1 cl1 fp1))) (fun s1 H1 C1 cl1 fp1 => dts_nil) (fun s1 H1 C1 cl1 fp1 => (de_op od_add (de_ty bu_int rfl (c.toCtx.blk s1 H1 _ C1 cl1 fp1) T.n_int PyProof.Rows.Boot.«int» (da_cons (de_cmp (od_eq (c.toCtx.blk s1 H1 _ C1 cl1 fp1)) (de_var 2 (c.toCtx.blk s1 H1 _ C1 cl1 fp1)) (de_ix (de_var 0 (c.toCtx.blk s1 H1 _ C1 cl1 fp1)) de_int)) da_nil)) (de_ty bu_int rfl (c.toCtx.blk s1 H1 _ C1 cl1 fp1) T.n_int PyProof.Rows.Boot.«int» (da_cons (de_cmp (od_eq (c.toCtx.blk s1 H1 _ C1 cl1 fp1)) (de_var 2 (c.toCtx.blk s1 H1 _ C1 cl1 fp1)) (de_ix (de_var 0 (c.toCtx.blk s1 H1 _ C1 cl1 fp1)) de_int)) da_nil))))) da_nil)))))
theorem sc_moved : FnScope ["crowd", "places", "kind", "seen", "new", "found"] ["crowd", "places"] (defScope s_moved) := ⟨rfl, rfl, rfl, by decide +kernel, rfl, by decide +kernel, by decide +kernel⟩
theorem ok_moved (T : Txt K mg γ)  {f : Addr} {fd : FuncData} (F : Fun K "moved" "moved" s_moved f fd) : FnG P w K mg base 1 f fd ["crowd", "places"] (spD ⟨K, γ⟩ 2 (runD 6 b_moved)) :=
  def_ok F sc_moved (k := 0) (by
    rintro X W rfl rfl rfl rfl rfl c
    exact (dss_cons (ds_asg (de_var 1 c.toCtx) (dg_tup 3 c (dgs_cons (dg_name 2 c) (dgs_cons (dg_name 3 c) (dgs_cons (dg_name 4 c) dgs_nil)))))
    (dss_cons (ds_if (dw_t (dw_or (dt_cmp od_lt (de_ix (de_var 0 c.toCtx) (de_var 2 c.toCtx)) de_int) (dw_or1 (dt_cmp od_lt (de_ix (de_var 0 c.toCtx) (de_var 3 c.toCtx)) (de_op od_add de_int (de_ty bu_int rfl c.toCtx T.n_int PyProof.Rows.Boot.«int» (da_cons (de_cmp (od_eq c.toCtx) (de_var 3 c.toCtx) (de_var 2 c.toCtx)) da_nil))))))) (dss_one (ds_ret de_non)) dss_nil)
    (dss_cons (ds_set 5 c (de_ty bu_listC rfl c.toCtx T.n_list PyProof.Rows.Boot.«list» (da_cons (de_var 0 c.toCtx) da_nil)))
    (dss_cons (ds_asg (de_op od_sub (de_ix (de_var 5 c.toCtx) (de_var 2 c.toCtx)) de_int) (dg_ix (de_var 5 c.toCtx) (de_var 2 c.toCtx)))
    (dss_cons (ds_asg (de_op od_add (de_ix (de_var 5 c.toCtx) (de_var 4 c.toCtx)) de_int) (dg_ix (de_var 5 c.toCtx) (de_var 4 c.toCtx)))
    (dss_one (ds_ret (de_ty bu_tuple rfl c.toCtx T.n_tuple PyProof.Rows.Boot.«tuple» (da_cons (de_var 5 c.toCtx) da_nil))))))))))
theorem sc_reached : FnScope ["moves", "crowd", "found", "known", "at", "places", "behind"] ["moves", "crowd"] (defScope s_reached) := ⟨rfl, rfl, rfl, by decide +kernel, rfl, by decide +kernel, by decide +kernel⟩
theorem ok_reached (T : Txt K mg γ) (h_moved : Cal γ P w K mg base "moved" 1 2 m_moved) {f : Addr} {fd : FuncData} (F : Fun K "reached" "reached" s_reached f fd) : FnG P w K mg base 2 f fd ["moves", "crowd"] (spD ⟨K, γ⟩ 2 (runD 7 b_reached)) :=
  def_ok F sc_reached (k := 1) (by
    rintro X W rfl rfl rfl rfl rfl c
    exact (dss_cons (ds_par 2 3 c (da_cons (de_cell (da_cons (de_ty bu_tuple rfl c.toCtx T.n_tuple PyProof.Rows.Boot.«tuple» (da_cons (de_var 1 c.toCtx) da_nil)) da_nil)) (da_cons (de_dic1 c.toCtx (de_ty bu_tuple rfl c.toCtx T.n_tuple PyProof.Rows.Boot.«tuple» (da_cons (de_var 1 c.toCtx) da_nil)) de_bl) da_nil)) (hw := sw_par c))
    (dss_cons (ds_set 4 c de_int)
    (dss_cons (ds_while c (dt_cmp od_lt (de_var 4 c.toCtx) (de_bu bu_len rfl c.toCtx T.n_len PyProof.Rows.Boot.«len» (da_cons (de_var 2 c.toCtx) da_nil))) (dss_cons (ds_for c (di_seq (de_var 0 c.toCtx)) (dg_name 5 c) (dss_cons (ds_set 6 c (de_call c.toCtx h_moved (by decide) rfl (da_cons (de_ix (de_var 2 c.toCtx) (de_var 4 c.toCtx)) (da_cons (de_var 5 c.toCtx) da_nil))))
    (dss_one (ds_if (dw_t (dw_and (dt_cmp od_isNot (de_var 6 c.toCtx) de_non) (dw_and1 (dt_cmp (od_notInM c.toCtx) (de_var 6 c.toCtx) (de_var 3 c.toCtx))))) (dss_cons (ds_putM c (de_var 3 c.toCtx) (de_var 6 c.toCtx) de_bl)
    (dss_one (ds_expr (de_append (de_var 2 c.toCtx) (da_cons (de_var 6 c.toCtx) da_nil))))) dss_nil))))
    (dss_one (ds_set 4 c (de_op od_add (de_var 4 c.toCtx) de_int)))))
    (dss_one (ds_ret (de_var 2 c.toCtx)))))))
theorem sc_follows_from : FnScope ["moves", "places", "many", "begin"] ["moves", "places", "many"] (defScope s_follows_from) := ⟨rfl, rfl, rfl, by decide +kernel, rfl, by decide +kernel, by decide +kernel⟩
theorem ok_follows_from (T : Txt K mg γ) (h_two_of : Cal γ P w K mg base "two_of" 1 2 m_two_of) (h_moved : Cal γ P w K mg base "moved" 1 2 m_moved) (h_reached : Cal γ P w K mg base "reached" 2 2 m_reached) {f : Addr} {fd : FuncData} (F : Fun K "follows_from" "follows_from" s_follows_from f fd) : FnG P w K mg base 3 f fd ["moves", "places", "many"] (spD ⟨K, γ⟩ 3 (runD 4 b_follows_from)) :=
  def_ok F sc_follows_from (k := 2) (by
    rintro X W rfl rfl rfl rfl rfl c
    exact (dss_cons (ds_set 3 c (de_call c.toCtx h_two_of (by decide) rfl (da_cons (de_var 1 c.toCtx) (da_cons (de_var 2 c.toCtx) da_nil))))
    (dss_one (ds_ret (de_cmp (od_in c.toCtx) (de_call c.toCtx h_moved (by decide) rfl (da_cons (de_var 3 c.toCtx) (da_cons (de_var 1 c.toCtx) da_nil))) (de_call c.toCtx h_reached (by decide) rfl (da_cons (de_var 0 c.toCtx) (da_cons (de_var 3 c.toCtx) da_nil))))))))
theorem sc_places_of : FnScope ["book", "rule", "name"] ["book", "rule"] (defScope s_places_of) := ⟨rfl, rfl, rfl, by decide +kernel, rfl, by decide +kernel, by decide +kernel⟩
theorem ok_places_of (T : Txt K mg γ)  {f : Addr} {fd : FuncData} (F : Fun K "places_of" "places_of" s_places_of f fd) : FnG P w K mg base 1 f fd ["book", "rule"] (spD ⟨K, γ⟩ 2 (runD 3 b_places_of)) :=
  def_ok F sc_places_of (k := 0) (by
    rintro X W rfl rfl rfl rfl rfl c
    exact (dss_one (ds_ret (de_ty bu_tuple rfl c.toCtx T.n_tuple PyProof.Rows.Boot.«tuple» (da_cons (de_lc [("name", 2)] c.toCtx (di_seq (de_var 1 c.toCtx)) (by decide +kernel) (fun s1 H1 C1 cl1 fp1 => (wg_name 2 (c.toCtx.blk s1 H1 _ C1 cl1 fp1))) (fun s1 H1 C1 cl1 fp1 => dts_nil) (fun s1 H1 C1 cl1 fp1 => (de_tindex (de_fld 0 T.c_Book T.a_Book_kept_kinds (de_var 0 (c.toCtx.blk s1 H1 _ C1 cl1 fp1))) (da_cons (de_var 2 (c.toCtx.blk s1 H1 _ C1 cl1 fp1)) da_nil)))) da_nil)))))
theorem sc_moves_of : FnScope ["book", "rule"] ["book"] (defScope s_moves_of) := ⟨rfl, rfl, rfl, by decide +kernel, rfl, by decide +kernel, by decide +kernel⟩
theorem ok_moves_of (T : Txt K mg γ) (h_places_of : Cal γ P w K mg base "places_of" 1 2 m_places_of) {f : Addr} {fd : FuncData} (F : Fun K "moves_of" "moves_of" s_moves_of f fd) : FnG P w K mg base 2 f fd ["book"] (spD ⟨K, γ⟩ 1 (runD 2 b_moves_of)) :=
  def_ok F sc_moves_of (k := 1) (by
    rintro X W rfl rfl rfl rfl rfl c
    exact (dss_one (ds_ret (de_lc [("rule", 1)] c.toCtx (di_seq (de_fld 0 T.c_Book T.a_Book_kept_rules (de_var 0 c.toCtx))) (by decide +kernel) (fun s1 H1 C1 cl1 fp1 => (wg_name 1 (c.toCtx.blk s1 H1 _ C1 cl1 fp1))) (fun s1 H1 C1 cl1 fp1 => dts_nil) (fun s1 H1 C1 cl1 fp1 => (de_call (c.toCtx.blk s1 H1 _ C1 cl1 fp1) h_places_of (by decide) rfl (da_cons (de_var 0 (c.toCtx.blk s1 H1 _ C1 cl1 fp1)) (da_cons (de_var 1 (c.toCtx.blk s1 H1 _ C1 cl1 fp1)) da_nil))))))))
theorem sc_follows : FnScope ["book", "rule"] ["book", "rule"] (defScope s_follows) := ⟨rfl, rfl, rfl, by decide +kernel, rfl, by decide +kernel, by decide +kernel⟩
theorem ok_follows (T : Txt K mg γ) (h_check_rule : Cal γ P w K mg base "check_rule" 3 2 m_check_rule) (h_follows_from : Cal γ P w K mg base "follows_from" 3 3 m_follows_from) (h_moves_of : Cal γ P w K mg base "moves_of" 2 1 m_moves_of) (h_places_of : Cal γ P w K mg base "places_of" 1 2 m_places_of) {f : Addr} {fd : FuncData} (F : Fun K "follows" "follows" s_follows f fd) : FnG P w K mg base 4 f fd ["book", "rule"] (spD ⟨K, γ⟩ 2 (runD 2 b_follows)) :=
  def_ok F sc_follows (k := 3) (by
    rintro X W rfl rfl rfl rfl rfl c
    exact (dss_cons (ds_expr (de_call c.toCtx h_check_rule (by decide) rfl (da_cons (de_fld 0 T.c_Book T.a_Book_kept_kinds (de_var 0 c.toCtx)) (da_cons (de_var 1 c.toCtx) da_nil))))
    (dss_one (ds_ret (de_call c.toCtx h_follows_from (by decide) rfl (da_cons (de_call c.toCtx h_moves_of (by decide) rfl (da_cons (de_var 0 c.toCtx) da_nil)) (da_cons (de_call c.toCtx h_places_of (by decide) rfl (da_cons (de_var 0 c.toCtx) (da_cons (de_var 1 c.toCtx) da_nil))) (da_cons (de_bu bu_len rfl c.toCtx T.n_len PyProof.Rows.Boot.«len» (da_cons (de_fld 0 T.c_Book T.a_Book_kept_kinds (de_var 0 c.toCtx)) da_nil)) da_nil))))))))
theorem sc__law_herds : FnScope ["count", "members", "found", "turn", "longer", "herd", "number"] ["count", "members"] (defScope s__law_herds) := ⟨rfl, rfl, rfl, by decide +kernel, rfl, by decide +kernel, by decide +kernel⟩
theorem ok__law_herds (T : Txt K mg γ)  {f : Addr} {fd : FuncData} (F : Fun K "_law_herds" "_law_herds" s__law_herds f fd) : FnG P w K mg base 1 f fd ["count", "members"] (spD ⟨K, γ⟩ 2 (runD 7 b__law_herds)) :=
  def_ok F sc__law_herds (k := 0) (by
    rintro X W rfl rfl rfl rfl rfl c
    exact (dss_cons (ds_set 2 c (de_lst (da_cons (de_lst da_nil) da_nil)))
    (dss_cons (ds_for c (di_range1 c.toCtx T.n_range (da_cons (de_var 0 c.toCtx) da_nil)) (dg_name 3 c) (dss_cons (ds_set 4 c (de_lst da_nil))
    (dss_cons (ds_for c (di_seq (de_var 2 c.toCtx)) (dg_name 5 c) (dss_one (ds_set 4 c (de_op od_add (de_var 4 c.toCtx) (de_lc [("number", 6)] c.toCtx (di_range1 c.toCtx T.n_range (da_cons (de_op od_sub (de_op od_add (de_var 1 c.toCtx) de_int) (de_bu (bu_sum c.toCtx) rfl c.toCtx T.n_sum PyProof.Rows.Boot.«sum» (da_cons (de_var 5 c.toCtx) da_nil))) da_nil)) (by decide +kernel) (fun s1 H1 C1 cl1 fp1 => (wg_name 6 (c.toCtx.blk s1 H1 _ C1 cl1 fp1))) (fun s1 H1 C1 cl1 fp1 => dts_nil) (fun s1 H1 C1 cl1 fp1 => (de_op od_add (de_var 5 (c.toCtx.blk s1 H1 _ C1 cl1 fp1)) (de_lst (da_cons (de_var 6 (c.toCtx.blk s1 H1 _ C1 cl1 fp1)) da_nil)))))))))
    (dss_one (ds_set 2 c (de_var 4 c.toCtx))))))
    (dss_one (ds_ret (de_var 2 c.toCtx))))))
theorem sc__law_in_all : FnScope ["plan", "rule_here", "herd", "behind"] ["plan", "rule_here"] (defScope s__law_in_all) := ⟨rfl, rfl, rfl, by decide +kernel, rfl, by decide +kernel, by decide +kernel⟩
theorem ok__law_in_all (T : Txt K mg γ) (h__law_herds : Cal γ P w K mg base "_law_herds" 1 2 m__law_herds) (h__law_turned_to : Cal γ P w K mg base "_law_turned_to" 1 3 m__law_turned_to) (h__law_all_behind : Cal γ P w K mg base "_law_all_behind" 2 2 m__law_all_behind) {f : Addr} {fd : FuncData} (F : Fun K "_law_in_all" "_law_in_all" s__law_in_all f fd) : FnG P w K mg base 3 f fd ["plan", "rule_here"] (spD ⟨K, γ⟩ 2 (runD 4 b__law_in_all)) :=
  def_ok F sc__law_in_all (k := 2) (by
    rintro X W rfl rfl rfl rfl rfl c
    exact (dss_cons (ds_for c (di_seq (de_call c.toCtx h__law_herds (by decide) rfl (da_cons (de_bu bu_len rfl c.toCtx T.n_len PyProof.Rows.Boot.«len» (da_cons (de_ix (de_var 0 c.toCtx) de_int) da_nil)) (da_cons de_int da_nil)))) (dg_name 2 c) (dss_cons (ds_set 3 c (de_call c.toCtx h__law_turned_to (by decide) rfl (da_cons (de_var 0 c.toCtx) (da_cons (de_var 2 c.toCtx) (da_cons (de_var 1 c.toCtx) da_nil)))))
    (dss_one (ds_if (dw_t (dw_and (dt_cmp od_isNot (de_var 3 c.toCtx) de_non) (dw_and1 (dt_cmp (od_notIn c.toCtx) (de_var 3 c.toCtx) (de_call c.toCtx h__law_all_behind (by decide) rfl (da_cons (de_var 0 c.toCtx) (da_cons (de_var 2 c.toCtx) da_nil))))))) (dss_one (ds_ret de_bl)) dss_nil))))
    (dss_one (ds_ret de_bl))))
theorem sc_Book_kinds : FnScope ["self"] ["self"] (defScope s_Book_kinds) := ⟨rfl, rfl, rfl, by decide +kernel, rfl, by decide +kernel, by decide +kernel⟩
theorem ok_Book_kinds (T : Txt K mg γ)  {f : Addr} {fd : FuncData} (F : Fun K "kinds" "Book.kinds" s_Book_kinds f fd) : FnG P w K mg base 1 f fd ["self"] (spD ⟨K, γ⟩ 1 (runD 1 b_Book_kinds)) :=
  def_ok F sc_Book_kinds (k := 0) (by
    rintro X W rfl rfl rfl rfl rfl c
    exact (dss_one (ds_ret (de_ty bu_list rfl c.toCtx T.n_list PyProof.Rows.Boot.«list» (da_cons (de_fld 0 T.c_Book T.a_Book_kept_kinds (de_var 0 c.toCtx)) da_nil)))))
theorem sc_Book_without : FnScope ["self", "rule", "known"] ["self", "rule"] (defScope s_Book_without) := ⟨rfl, rfl, rfl, by decide +kernel, rfl, by decide +kernel, by decide +kernel⟩
theorem ok_Book_without (T : Txt K mg γ) (r_InvalidRule : Rai γ P w K mg base "InvalidRule" 9 1) (h_Book : Cal γ P w K mg base "Book" 5 2 m_Book) (h_Book_kinds : Prp γ P w K mg base 0 "kinds" 1 m_Book_kinds) {f : Addr} {fd : FuncData} (F : Fun K "without" "Book.without" s_Book_without f fd) : FnG P w K mg base 6 f fd ["self", "rule"] (spD ⟨K, γ⟩ 2 (runD 3 b_Book_without)) :=
  def_ok F sc_Book_without (k := 5) (by
    rintro X W rfl rfl rfl rfl rfl c
    exact (dss_cons (ds_if (dt_cmp (od_notIn c.toCtx) (de_var 1 c.toCtx) (de_fld 0 T.c_Book T.a_Book_kept_rules (de_var 0 c.toCtx))) (dss_one (ds_raise c.toCtx r_InvalidRule (by decide) rfl (de_var 1 c.toCtx))) dss_nil)
    (dss_one (ds_ret (de_call c.toCtx h_Book (by decide) rfl (da_cons (de_prop c.toCtx h_Book_kinds (by decide) (de_var 0 c.toCtx)) (da_cons (de_lc [("known", 2)] c.toCtx (di_seq (de_fld 0 T.c_Book T.a_Book_kept_rules (de_var 0 c.toCtx))) (by decide +kernel) (fun s1 H1 C1 cl1 fp1 => (wg_name 2 (c.toCtx.blk s1 H1 _ C1 cl1 fp1))) (fun s1 H1 C1 cl1 fp1 => (dts_one (dt_cmp (od_ne (c.toCtx.blk s1 H1 _ C1 cl1 fp1)) (de_var 2 (c.toCtx.blk s1 H1 _ C1 cl1 fp1)) (de_var 1 (c.toCtx.blk s1 H1 _ C1 cl1 fp1))))) (fun s1 H1 C1 cl1 fp1 => (de_var 2 (c.toCtx.blk s1 H1 _ C1 cl1 fp1)))) da_nil)))))))
theorem sc_Book_eq : FnScope ["self", "other"] ["self", "other"] (defScope s_Book_eq) := ⟨rfl, rfl, rfl, by decide +kernel, rfl, by decide +kernel, by decide +kernel⟩
theorem ok_Book_eq (T : Txt K mg γ)  {f : Addr} {fd : FuncData} (F : Fun K "__eq__" "Book.__eq__" s_Book_eq f fd) : FnG P w K mg base 1 f fd ["self", "other"] (spD ⟨K, γ⟩ 2 (runD 2 b_Book_eq)) :=
  def_ok F sc_Book_eq (k := 0) (by
    rintro X W rfl rfl rfl rfl rfl c
    exact (dss_cons (ds_if (dt_not (dt_val (de_bu (bu_isi (isS_ok T.i_Book)) rfl c.toCtx T.n_isinstance PyProof.Rows.Boot.«isinstance» (da_cons (de_var 1 c.toCtx) (da_cons (de_cls 0 c.toCtx.hsc T.m_Book) da_nil))))) (dss_one (ds_ret de_bl)) dss_nil)
    (dss_one (ds_ret (de_and (de_cmp (od_eq c.toCtx) (de_fld 0 T.c_Book T.a_Book_kept_kinds (de_var 0 c.toCtx)) (de_fld 0 T.c_Book T.a_Book_kept_kinds (de_var 1 c.toCtx))) (de_one (de_cmp (od_eq c.toCtx) (de_fld 0 T.c_Book T.a_Book_kept_rules (de_var 0 c.toCtx)) (de_fld 0 T.c_Book T.a_Book_kept_rules (de_var 1 c.toCtx)))))))))
theorem sc__law_right : FnScope ["mill", "plan", "made", "every", "who", "whom", "turn", "rule_here", "due", "gone", "less", "few", "what", "single"] ["mill"] (defScope s__law_right) := ⟨rfl, rfl, rfl, by decide +kernel, rfl, by decide +kernel, by decide +kernel⟩
theorem ok__law_right (T : Txt K mg γ) (h__law_manual : Cal γ P w K mg base "_law_manual" 3 3 m__law_manual) (h__law_grind : Cal γ P w K mg base "_law_grind" 1 2 m__law_grind) (h__law_chain : Cal γ P w K mg base "_law_chain" 2 2 m__law_chain) (h__law_code : Cal γ P w K mg base "_law_code" 6 1 m__law_code) (h__law_comes : Cal γ P w K mg base "_law_comes" 3 2 m__law_comes) (h_follows : Cal γ P w K mg base "follows" 4 2 m_follows) (h_follows_rule_book : CalK γ P w K mg base "follows" 4 0 ["rule", "book"] (fun ds es S => m_follows (pick [1, 0] (ds ++ es)) S)) (h__law_in_all : Cal γ P w K mg base "_law_in_all" 3 2 m__law_in_all) (h_Book_without : Mth γ P w K mg base 0 "without" 6 1 m_Book_without) (h_Book_eq : Own γ P w K mg base 0 "__eq__" 1 1 m_Book_eq) {f : Addr} {fd : FuncData} (F : Fun K "_law_right" "_law_right" s__law_right f fd) : FnG P w K mg base 7 f fd ["mill"] (spD ⟨K, γ⟩ 1 (runD 14 b__law_right_k24)) :=
  def_ok F sc__law_right (k := 6) (by
    rintro X W rfl rfl rfl rfl rfl c
    exact (dss_cons (ds_set 1 c (de_call c.toCtx h__law_manual (by decide) rfl (da_cons (de_var 0 c.toCtx) (da_cons (de_ix (de_lst (da_cons de_int (da_cons de_int (da_cons de_int da_nil)))) (de_call c.toCtx h__law_grind (by decide) rfl (da_cons (de_var 0 c.toCtx) (da_cons de_int da_nil)))) (da_cons de_int da_nil)))))
    (dss_cons (ds_set 1 c (de_if (dt_cmp (od_eq c.toCtx) (de_call c.toCtx h__law_grind (by decide) rfl (da_cons (de_var 0 c.toCtx) (da_cons de_int da_nil))) de_int) (de_call c.toCtx h__law_chain (by decide) rfl (da_cons (de_var 0 c.toCtx) (da_cons (de_var 1 c.toCtx) da_nil))) (de_var 1 c.toCtx)))
    (dss_cons (ds_par 2 3 c (da_cons (de_call c.toCtx h__law_code (by decide) rfl (da_cons (de_var 1 c.toCtx) da_nil)) (da_cons (de_cell da_nil) da_nil)) (hw := sw_par c))
    (dss_cons (ds_for c (di_seq (de_ix (de_var 1 c.toCtx) de_int)) (dg_name 4 c) (dss_one (ds_for c (di_seq (de_ix (de_var 1 c.toCtx) de_int)) (dg_name 5 c) (dss_one (ds_set 3 c (de_op od_addC (de_var 3 c.toCtx) (de_lc [("what", 12)] c.toCtx (di_seq (de_ix (de_var 1 c.toCtx) de_int)) (by decide +kernel) (fun s1 H1 C1 cl1 fp1 => (wg_name 12 (c.toCtx.blk s1 H1 _ C1 cl1 fp1))) (fun s1 H1 C1 cl1 fp1 => (dts_one (dt_cmp (od_ne (c.toCtx.blk s1 H1 _ C1 cl1 fp1)) (de_var 12 (c.toCtx.blk s1 H1 _ C1 cl1 fp1)) (de_var 4 (c.toCtx.blk s1 H1 _ C1 cl1 fp1))))) (fun s1 H1 C1 cl1 fp1 => (de_tup (da_cons (de_var 4 (c.toCtx.blk s1 H1 _ C1 cl1 fp1)) (da_cons (de_var 5 (c.toCtx.blk s1 H1 _ C1 cl1 fp1)) (da_cons (de_var 12 (c.toCtx.blk s1 H1 _ C1 cl1 fp1)) da_nil))))))))))))
    (dss_cons (ds_for c (di_range1 c.toCtx T.n_range (da_cons de_int da_nil)) (dg_name 6 c) (dss_one (ds_if (dt_cmp (od_ne c.toCtx) (de_var 3 c.toCtx) (de_lst da_nil)) (dss_cons (ds_set 7 c (de_popAt (de_var 3 c.toCtx) (da_cons (de_call c.toCtx h__law_grind (by decide) rfl (da_cons (de_var 0 c.toCtx) (da_cons (de_bu bu_len rfl c.toCtx T.n_len PyProof.Rows.Boot.«len» (da_cons (de_var 3 c.toCtx) da_nil)) da_nil))) da_nil)))
    (dss_cons (ds_set 8 c (de_call c.toCtx h__law_comes (by decide) rfl (da_cons (de_var 1 c.toCtx) (da_cons (de_var 7 c.toCtx) da_nil))))
    (dss_cons (ds_if (dt_cmp (od_ne c.toCtx) (de_bu (bu_repr c.toCtx) rfl c.toCtx T.n_repr PyProof.Rows.Boot.«repr» (da_cons (de_lst (da_cons (de_call c.toCtx h_follows (by decide) rfl (da_cons (de_var 2 c.toCtx) (da_cons (de_var 7 c.toCtx) da_nil))) (da_cons (de_callK0 c.toCtx h_follows_rule_book (by decide) rfl (dk_cons (de_var 7 c.toCtx) (dk_cons (de_var 2 c.toCtx) dk_nil))) da_nil))) da_nil)) (de_bu (bu_repr c.toCtx) rfl c.toCtx T.n_repr PyProof.Rows.Boot.«repr» (da_cons (de_lst (da_cons (de_var 8 c.toCtx) (da_cons (de_var 8 c.toCtx) da_nil))) da_nil))) (dss_one (ds_ret de_bl)) dss_nil)
    (dss_one (ds_if (dw_t (dw_and (dt_cmp (od_eq c.toCtx) (de_var 6 c.toCtx) de_int) (dw_and (dt_cmp od_lt (de_bu bu_len rfl c.toCtx T.n_len PyProof.Rows.Boot.«len» (da_cons (de_ix (de_var 1 c.toCtx) de_int) da_nil)) de_int) (dw_and1 (dt_cmp (od_ne c.toCtx) (de_call c.toCtx h__law_in_all (by decide) rfl (da_cons (de_var 1 c.toCtx) (da_cons (de_var 7 c.toCtx) da_nil))) (de_var 8 c.toCtx)))))) (dss_one (ds_ret de_bl)) dss_nil))))) dss_nil)))
    (dss_cons (ds_for c (di_seq (de_slice (de_ix (de_var 1 c.toCtx) de_int) do_none (do_some de_int))) (dg_name 9 c) (dss_cons (ds_par 10 11 c (da_cons (de_tup (da_cons (de_ix (de_var 1 c.toCtx) de_int) (da_cons (de_lc [("single", 13)] c.toCtx (di_seq (de_ix (de_var 1 c.toCtx) de_int)) (by decide +kernel) (fun s1 H1 C1 cl1 fp1 => (wg_name 13 (c.toCtx.blk s1 H1 _ C1 cl1 fp1))) (fun s1 H1 C1 cl1 fp1 => (dts_one (dt_cmp (od_ne (c.toCtx.blk s1 H1 _ C1 cl1 fp1)) (de_var 13 (c.toCtx.blk s1 H1 _ C1 cl1 fp1)) (de_var 9 (c.toCtx.blk s1 H1 _ C1 cl1 fp1))))) (fun s1 H1 C1 cl1 fp1 => (de_var 13 (c.toCtx.blk s1 H1 _ C1 cl1 fp1)))) da_nil))) (da_cons (de_meth c.toCtx h_Book_without (by decide) (de_var 2 c.toCtx) (da_cons (de_var 9 c.toCtx) da_nil)) da_nil)) (hw := sw_par c))
    (dss_one (ds_for c (di_seq (de_op od_add (de_op od_add (de_lst (da_cons (de_var 9 c.toCtx) da_nil)) (de_slice (de_ix (de_var 1 c.toCtx) de_int) (do_some (de_un ud_neg de_int)) do_none)) (de_slice (de_var 3 c.toCtx) do_none (do_some de_int)))) (dg_name 7 c) (dss_one (ds_if (dt_cmp (od_ne c.toCtx) (de_call c.toCtx h_follows (by decide) rfl (da_cons (de_var 11 c.toCtx) (da_cons (de_var 7 c.toCtx) da_nil))) (de_call c.toCtx h__law_comes (by decide) rfl (da_cons (de_var 10 c.toCtx) (da_cons (de_var 7 c.toCtx) da_nil)))) (dss_one (ds_ret de_bl)) dss_nil))))))
    (dss_one (ds_ret (de_cmp (od_own c.toCtx h_Book_eq (by decide)) (de_var 2 c.toCtx) (de_call c.toCtx h__law_code (by decide) rfl (da_cons (de_var 1 c.toCtx) da_nil))))))))))))
theorem sc_law : FnScope ["script", "place", "mill"] ["script"] (defScope s_law) := ⟨rfl, rfl, rfl, by decide +kernel, rfl, by decide +kernel, by decide +kernel⟩
theorem ok_law (T : Txt K mg γ) (h__law_mill : Cal γ P w K mg base "_law_mill" 1 2 m__law_mill) (h__law_right : Cal γ P w K mg base "_law_right" 7 1 m__law_right_k24) {f : Addr} {fd : FuncData} (F : Fun K "law" "law" s_law f fd) : FnG P w K mg base 8 f fd ["script"] (spD ⟨K, γ⟩ 1 (runD 3 b_law_k24)) :=
  def_ok F sc_law (k := 7) (by
    rintro X W rfl rfl rfl rfl rfl c
    exact (dss_cons (ds_for c (di_range1 c.toCtx T.n_range (da_cons (de_bu (bu_min c.toCtx) rfl c.toCtx T.n_min PyProof.Rows.Boot.«min» (da_cons de_int (da_cons (de_bu (bu_max c.toCtx) rfl c.toCtx T.n_max PyProof.Rows.Boot.«max» (da_cons de_int (da_cons (de_bu bu_len rfl c.toCtx T.n_len PyProof.Rows.Boot.«len» (da_cons (de_var 0 c.toCtx) da_nil)) da_nil))) da_nil))) da_nil)) (dg_name 1 c) (dss_cons (ds_set 2 c (de_call c.toCtx h__law_mill (by decide) rfl (da_cons (de_var 0 c.toCtx) (da_cons (de_var 1 c.toCtx) da_nil))))
    (dss_one (ds_if (dt_not (dt_val (de_call c.toCtx h__law_right (by decide) rfl (da_cons (de_var 2 c.toCtx) da_nil)))) (dss_one (ds_ret de_bl)) dss_nil))))
    (dss_one (ds_ret de_bl))))
end
end DL

namespace DL
open PySem PySem.Spec PyProof.Rows L2
/-- texts as they may stand in data -/
structure Nm where
  v : Str
  ok : PyData.strOk v = true
  deriving DecidableEq
def eN' (x : Nm) : Dv := .str x.1
/-- a way to write typed things as data -/
class En2 {α : Type} (f : α → Dv) where
  g : α → PyData
  dep : Nat
  py : ∀ a, pyP (f a) = some (g a)
  lay : ∀ a, (g a).canLay0 = true
  depth : ∀ a, (g a).depth ≤ dep
  eqv : ∀ a b, PyData.eqv (g a) (g b) = true ↔ a = b
/-- typed lists, tuples, pairs -/
def eL {α : Type} (f : α → Dv) (l : List α) : Dv := .lst (l.map f)
def eTu {α : Type} (f : α → Dv) (l : List α) : Dv := .tup (l.map f)
def eP {α β : Type} (f : α → Dv) (g : β → Dv) (x : α × β) : Dv := .tup [f x.1, g x.2]
def ePL {α β : Type} (f : α → Dv) (g : β → Dv) (x : α × β) : Dv := .lst [f x.1, g x.2]
def eOp {α : Type} (f : α → Dv) : Option α → Dv
  | none => .non
  | some a => f a
instance iInt : En2 Dv.int := ⟨.int, 0, fun _ => by rw [pyP], fun _ => by rw [PyData.canLay0], fun _ => by rw [PyData.depth]; exact Nat.le_refl _, fun a b => by simp [PyData.eqv]⟩
instance iNm : En2 eN' := ⟨fun x => .str x.1, 0, fun _ => by rw [eN', pyP], fun x => by rw [PyData.canLay0]; exact x.2, fun _ => by rw [PyData.depth]; exact Nat.le_refl _, fun a b => by cases a; cases b; simp [PyData.eqv]⟩
instance iBl : En2 Dv.bl := ⟨.bool, 0, fun _ => by rw [pyP], fun _ => by rw [PyData.canLay0], fun _ => by rw [PyData.depth]; exact Nat.le_refl _, fun a b => by cases a <;> cases b <;> simp [PyData.eqv]⟩
theorem pyPs_en {α : Type} {f : α → Dv} [E : En2 f] : ∀ l : List α, pyPs (l.map f) = some (l.map E.g)
  | [] => by rw [List.map_nil, pyPs]; rfl
  | a :: r => by rw [List.map_cons, pyPs, E.py, pyPs_en r]; rfl
theorem layAll_en {α : Type} {f : α → Dv} [E : En2 f] : ∀ l : List α, PyData.canLayAll0 (l.map E.g) = true
  | [] => by rw [List.map_nil, PyData.canLayAll0]
  | a :: r => by rw [List.map_cons, PyData.canLayAll0, E.lay, layAll_en r]; rfl
theorem depAll_en {α : Type} {f : α → Dv} [E : En2 f] : ∀ l : List α, PyData.depthAll (l.map E.g) ≤ E.dep
  | [] => by rw [List.map_nil, PyData.depthAll]; exact Nat.zero_le _
  | a :: r => by rw [List.map_cons, PyData.depthAll]; exact Nat.max_le.mpr ⟨E.depth a, depAll_en r⟩
theorem eqvAll_en {α : Type} {f : α → Dv} [E : En2 f] : ∀ l m : List α, PyData.eqvAll (l.map E.g) (m.map E.g) = true ↔ l = m
  | [], [] => by simp [PyData.eqvAll]
  | [], _ :: _ => by simp [PyData.eqvAll]
  | _ :: _, [] => by simp [PyData.eqvAll]
  | a :: r, b :: t => by
    rw [List.map_cons, List.map_cons, PyData.eqvAll, Bool.and_eq_true, E.eqv, eqvAll_en r t, List.cons.injEq]
instance iL {α : Type} (f : α → Dv) [E : En2 f] : En2 (eL f) := ⟨fun l => .list (l.map E.g), E.dep + 1, fun l => by rw [eL, pyP, pyPs_en]; rfl, fun l => by rw [PyData.canLay0]; exact layAll_en l, fun l => by rw [PyData.depth]; have := depAll_en (f := f) l; omega, fun a b => by rw [PyData.eqv]; exact eqvAll_en a b⟩
instance iT {α : Type} (f : α → Dv) [E : En2 f] : En2 (eTu f) := ⟨fun l => .tuple (l.map E.g), E.dep + 1, fun l => by rw [eTu, pyP, pyPs_en]; rfl, fun l => by rw [PyData.canLay0]; exact layAll_en l, fun l => by rw [PyData.depth]; have := depAll_en (f := f) l; omega, fun a b => by rw [PyData.eqv]; exact eqvAll_en a b⟩
instance iP {α β : Type} (f : α → Dv) (h : β → Dv) [E : En2 f] [G : En2 h] : En2 (eP f h) := ⟨fun x => .tuple [E.g x.1, G.g x.2], max E.dep G.dep + 1, fun l => by rw [eP, pyP, pyPs, pyPs, pyPs, E.py, G.py]; rfl, fun l => by rw [PyData.canLay0, PyData.canLayAll0, PyData.canLayAll0, PyData.canLayAll0, E.lay, G.lay]; rfl,
  fun l => by rw [PyData.depth, PyData.depthAll, PyData.depthAll, PyData.depthAll]; have := E.depth l.1; have := G.depth l.2; omega, fun a b => by rw [PyData.eqv, PyData.eqvAll, PyData.eqvAll, PyData.eqvAll, Bool.and_true, Bool.and_eq_true, E.eqv, G.eqv, Prod.ext_iff]⟩
instance iPL {α β : Type} (f : α → Dv) (h : β → Dv) [E : En2 f] [G : En2 h] : En2 (ePL f h) := ⟨fun x => .list [E.g x.1, G.g x.2], max E.dep G.dep + 1, fun l => by rw [ePL, pyP, pyPs, pyPs, pyPs, E.py, G.py]; rfl, fun l => by rw [PyData.canLay0, PyData.canLayAll0, PyData.canLayAll0, PyData.canLayAll0, E.lay, G.lay]; rfl,
  fun l => by rw [PyData.depth, PyData.depthAll, PyData.depthAll, PyData.depthAll]; have := E.depth l.1; have := G.depth l.2; omega, fun a b => by rw [PyData.eqv, PyData.eqvAll, PyData.eqvAll, PyData.eqvAll, Bool.and_true, Bool.and_eq_true, E.eqv, G.eqv, Prod.ext_iff]⟩
def pO {α : Type} (g : α → PyData) : Option α → PyData
  | none => .none
  | some a => g a
instance iO : En2 (eOp Dv.int) := ⟨pO .int, 0, fun l => by cases l <;> simp [eOp, pO, pyP], fun l => by cases l <;> simp [pO, PyData.canLay0], fun l => by cases l <;> simp [pO, PyData.depth], fun a b => by cases a <;> cases b <;> simp [pO, PyData.eqv]⟩
/-! ### what they answer -/
section
variable {α : Type} {f : α → Dv} {S : Sto} {n : Nat}
theorem en_py (E : En2 f) (a : α) : toPy S (f a) = some (E.g a) := toPy_of (E.py a)
theorem en_low (E : En2 f) (k : Nat) (a : α) : lowD k (f a) = true := low_of (E.py a)
theorem en_frz (E : En2 f) (k : Nat) (a : α) : frz S n k (f a) = f a := frz_py k (E.py a)
theorem en_shaped (E : En2 f) (h : E.dep ≤ 32) (a : α) : SeqAt.shaped (E.g a) = true := shaped_of (E.lay a) (E.depth a) h
theorem en_eq [DecidableEq α] (E : En2 f) (hd : E.dep ≤ 32) {h : Bool → Bool} (a b : α) : oEqF h (f a) (f b) S = .ok (.bl (h (decide (a = b)))) S := by
  rw [eqD_py (en_py E a) (en_py E b) (en_shaped E hd a) (en_shaped E hd b)]
  congr 3
  rw [Bool.eq_iff_iff, E.eqv, decide_eq_true_eq]
theorem en_any (E : En2 f) (l : List α) (a : α) [Decidable (a ∈ l)] : ((l.map E.g).any fun z => PyData.eqv z (E.g a)) = decide (a ∈ l) := by
  rw [Bool.eq_iff_iff, List.any_eq_true, decide_eq_true_eq]
  constructor
  · rintro ⟨z, hz, e⟩
    obtain ⟨b, hb, rfl⟩ := List.mem_map.mp hz
    rw [(E.eqv b a).mp e] at hb
    exact hb
  · exact fun h => ⟨_, List.mem_map.mpr ⟨a, h, rfl⟩, (E.eqv a a).mpr rfl⟩
theorem in_py {neg : Bool} {d e : Dv} {p : PyData} {q : List PyData} (h1 : toPy S d = some p) (h2 : toPy S e = some (.list q) ∨ toPy S e = some (.tuple q)) (s1 : SeqAt.shaped p = true) (s2 : SeqAt.shaped (.list q) = true) (s3 : SeqAt.shaped (.tuple q) = true) :
    inD neg d e S = .ok (.bl (xor neg (q.any fun z => PyData.eqv z p))) S := by
  unfold inD
  split
  · rename_i x y
    rw [toPy] at h2
    rcases h2 with h2 | h2 <;> cases h2
  · rw [h1]
    rcases h2 with h2 | h2
    · rw [h2]; dsimp only; rw [s1, s2]; rfl
    · rw [h2]; dsimp only; rw [s1, s3]; rfl
theorem en_in (E : En2 f) (hd : E.dep ≤ 31) {neg : Bool} {d : Dv} (l : List α) (a : α) [Decidable (a ∈ l)] (h : toPy S d = some (.list (l.map E.g)) ∨ toPy S d = some (.tuple (l.map E.g))) : inD neg (f a) d S = .ok (.bl (xor neg (decide (a ∈ l)))) S := by
  have s2 : SeqAt.shaped (.list (l.map E.g)) = true := shaped_of (by rw [PyData.canLay0]; exact layAll_en (f := f) l) (n := 32) (by rw [PyData.depth]; have := depAll_en (f := f) l; omega)
  have s3 : SeqAt.shaped (.tuple (l.map E.g)) = true := shaped_of (by rw [PyData.canLay0]; exact layAll_en (f := f) l) (n := 32) (by rw [PyData.depth]; have := depAll_en (f := f) l; omega)
  rw [in_py (en_py E a) h (en_shaped E (by omega) a) s2 s3, en_any]
theorem py_lst (E : En2 f) (l : List α) : toPy S (.lst (l.map f)) = some (.list (l.map E.g)) := en_py (iL f) l
theorem py_ro (E : En2 f) (l : List α) : toPy S (.ro (l.map f)) = some (.list (l.map E.g)) := by rw [toPy, toPys_of (pyPs_en l)]; rfl
theorem py_tup (E : En2 f) (l : List α) : toPy S (.tup (l.map f)) = some (.tuple (l.map E.g)) := en_py (iT f) l
theorem py_ktup (E : En2 f) (l : List α) : toPy S (.ktup (l.map f)) = some (.tuple (l.map E.g)) := by rw [toPy, toPys_of (pyPs_en l)]; rfl
theorem py_cell (E : En2 f) {k : Nat} {l : List α} (h : S[k]? = some (.lst (l.map f))) : toPy S (.cell k) = some (.list (l.map E.g)) := by
  rw [toPy, h]
  show (pyPs (l.map f)).map _ = _
  rw [pyPs_en]; rfl
/-- the place of the first one -/
def ixOf [DecidableEq α] (a : α) : List α → Nat
  | [] => 0
  | b :: r => if b = a then 0 else ixOf a r + 1
theorem ixOf_get [DecidableEq α] {a : α} : ∀ {l : List α}, a ∈ l → l[ixOf a l]? = some a
  | b :: r, h => by
    unfold ixOf
    by_cases e : b = a
    · rw [if_pos e, e]; rfl
    · rw [if_neg e, List.getElem?_cons_succ]
      exact ixOf_get ((List.mem_cons.mp h).resolve_left fun z => e z.symm)
theorem ixOf_lt [DecidableEq α] {a : α} {l : List α} (h : a ∈ l) : ixOf a l < l.length := (List.getElem?_eq_some_iff.mp (ixOf_get h)).1
theorem firstAt_en [DecidableEq α] (E : En2 f) {a : α} : ∀ {l : List α}, a ∈ l → firstAt (E.g a) (l.map E.g) = some (ixOf a l)
  | b :: r, h => by
    rw [List.map_cons, firstAt, ixOf]
    by_cases e : b = a
    · rw [if_pos ((E.eqv b a).mpr e), if_pos e]
    · rw [if_neg fun z => e ((E.eqv b a).mp z), if_neg e, firstAt_en E ((List.mem_cons.mp h).resolve_left fun z => e z.symm)]
      rfl
theorem en_index [DecidableEq α] (E : En2 f) (hd : E.dep ≤ 31) {d : Dv} {l : List α} {a : α} (h : toPy S d = some (.list (l.map E.g))) (ha : a ∈ l) : mIndex d [f a] S = .ok (.int (ixOf a l)) S := by
  have s2 : SeqAt.shaped (.list (l.map E.g)) = true := shaped_of (by rw [PyData.canLay0]; exact layAll_en (f := f) l) (n := 32) (by rw [PyData.depth]; have := depAll_en (f := f) l; omega)
  unfold mIndex
  dsimp only
  rw [h, en_py E a]
  dsimp only
  rw [s2, en_shaped E (by omega) a, firstAt_en E ha]
  rfl
theorem firstAt_none [DecidableEq α] (E : En2 f) {a : α} : ∀ {l : List α}, a ∉ l → firstAt (E.g a) (l.map E.g) = none
  | [], _ => rfl
  | b :: r, h => by
    rw [List.mem_cons, not_or] at h
    rw [List.map_cons, firstAt, if_neg fun z => h.1 ((E.eqv b a).mp z).symm, firstAt_none E h.2]
    rfl
theorem en_indexC [DecidableEq α] (E : En2 f) (hd : E.dep ≤ 31) {d : Dv} {l : List α} {a : α} (h : toPy S d = some (.list (l.map E.g))) : mIndex d [f a] S = condR (a ∈ l) (.ok (.int (ixOf a l)) S) := by
  by_cases ha : a ∈ l
  · rw [condR_of ha, en_index E hd h ha]
  · unfold condR
    rw [if_neg ha]
    unfold mIndex
    dsimp only
    rw [h, en_py E a]
    dsimp only
    rw [firstAt_none E ha]
    split <;> rfl
theorem unSs_nm : ∀ l : List Nm, unSs (l.map eN') = some (l.map (·.1))
  | [] => rfl
  | a :: r => by
    show (unSs (r.map eN')).map _ = _
    rw [unSs_nm r]; rfl
theorem ktup_index {l : List Nm} {a : Nm} (ha : a ∈ l) : mTIndex (.ktup (l.map eN')) [eN' a] S = .ok (.int (ixOf a l)) S := by
  unfold mTIndex eN'
  dsimp only
  have e := firstAt_en iNm ha
  rw [show (l.map fun x : Nm => Dv.str x.1) = l.map eN' from rfl, unSs_nm]
  dsimp only
  rw [List.map_map, show (l.map (PyData.str ∘ (·.1))) = l.map iNm.g from rfl, show PyData.str a.1 = iNm.g a from rfl, e]
theorem ktup_indexC {l : List Nm} {a : Nm} : mTIndex (.ktup (l.map eN')) [eN' a] S = condR (a ∈ l) (.ok (.int (ixOf a l)) S) := by
  by_cases ha : a ∈ l
  · rw [condR_of ha, ktup_index ha]
  · unfold condR
    rw [if_neg ha]
    unfold mTIndex eN'
    dsimp only
    have e := firstAt_none iNm ha
    rw [show (l.map fun x : Nm => Dv.str x.1) = l.map eN' from rfl, unSs_nm]
    dsimp only
    rw [List.map_map, show (l.map (PyData.str ∘ (·.1))) = l.map iNm.g from rfl, show PyData.str a.1 = iNm.g a from rfl, e]
/-! ### shown -/
theorem en_repr {d : Dv} {p : PyData} (hb : boxD d = true) (h : toPy S d = some p) (hr : reprOk p = true) : bRepr [d] S = .ok (.str p.shown) S := by
  unfold bRepr
  dsimp only
  rw [if_pos hb, h]
  dsimp only
  rw [if_pos hr]
end
theorem str_eq {h : Bool → Bool} {x y : Str} {S : Sto} : oEqF h (.str x) (.str y) S = .ok (.bl (h (x == y))) S := id rfl
theorem int_eq {h : Bool → Bool} {x y : Int} {S : Sto} : oEqF h (.int x) (.int y) S = .ok (.bl (h (decide (x = y)))) S := en_eq iInt (by decide) x y
theorem ints_eq {h : Bool → Bool} {x y : List Int} {S : Sto} : oEqF h (.lst (x.map .int)) (.lst (y.map .int)) S = .ok (.bl (h (decide (x = y)))) S := en_eq (iL Dv.int) (by decide) x y
theorem intsT_eq {h : Bool → Bool} {x y : List Int} {S : Sto} : oEqF h (.tup (x.map .int)) (.tup (y.map .int)) S = .ok (.bl (h (decide (x = y)))) S := en_eq (iT Dv.int) (by decide) x y
theorem id_is {b : Bool} : id b = b := id rfl
theorem eq_nil {α : Type} {f : α → Dv} (E : En2 f) (hd : E.dep ≤ 31) {h : Bool → Bool} {l : List α} {S : Sto} : oEqF h (.lst (l.map f)) (.lst []) S = .ok (.bl (h l.isEmpty)) S := by
  have := eqD_py (h := h) (py_lst (S := S) E l) (py_lst (S := S) E []) (en_shaped (iL f) (show E.dep + 1 ≤ 32 by omega) l) (en_shaped (iL f) (show E.dep + 1 ≤ 32 by omega) [])
  rw [List.map_nil] at this
  rw [this]
  congr 3
  cases l with
  | nil => simp [PyData.eqv, PyData.eqvAll]
  | cons a r => simp [PyData.eqv, PyData.eqvAll]
theorem eq_nilC {α : Type} {f : α → Dv} (E : En2 f) (hd : E.dep ≤ 31) {h : Bool → Bool} {l : List α} {k : Nat} {S : Sto} (hS : S[k]? = some (.lst (l.map f))) : oEqF h (.cell k) (.lst []) S = .ok (.bl (h l.isEmpty)) S := by
  have := eqD_py (h := h) (py_cell (S := S) E hS) (py_lst (S := S) E []) (en_shaped (iL f) (show E.dep + 1 ≤ 32 by omega) l) (en_shaped (iL f) (show E.dep + 1 ≤ 32 by omega) [])
  rw [List.map_nil] at this
  rw [this]
  congr 3
  cases l with
  | nil => simp [PyData.eqv, PyData.eqvAll]
  | cons a r => simp [PyData.eqv, PyData.eqvAll]
theorem eq_nn {h : Bool → Bool} {S : Sto} : oEqF h (.lst []) (.lst []) S = .ok (.bl (h true)) S := eq_nil (l := []) iInt (by decide)
theorem eq_nilI {h : Bool → Bool} {l : List Int} {S : Sto} : oEqF h (.lst (l.map .int)) (.lst []) S = .ok (.bl (h l.isEmpty)) S := eq_nil iInt (by decide)
theorem eq_nilN {h : Bool → Bool} {l : List Nm} {S : Sto} : oEqF h (.lst (l.map eN')) (.lst []) S = .ok (.bl (h l.isEmpty)) S := eq_nil iNm (by decide)
/-! ### numbers -/
theorem sum_lst {l : List Int} {S : Sto} : bSum [.lst (l.map .int)] S = .ok (.int l.sum) S := by
  unfold bSum
  dsimp only
  rw [asR_lst, Option.bind_some, intsD_is]
theorem set_ints {c : List Int} {i : Nat} {x : Int} : (c.map Dv.int).set i (Dv.int x) = (c.set i x).map Dv.int := List.map_set.symm
theorem app_ints {c : List Int} {x : Int} : c.map Dv.int ++ [Dv.int x] = (c ++ [x]).map Dv.int := by rw [List.map_append]; rfl
theorem ite_true' {c : Prop} [Decidable c] {b : Bool} : (if c then true else b) = (decide c || b) := by by_cases h : c <;> simp [h]
theorem ite_false' {c : Prop} [Decidable c] {b : Bool} : (if c then b else false) = (decide c && b) := by by_cases h : c <;> simp [h]
def pickO {α : Type} (r : List α) : Option α → List α
  | some x => x :: r
  | none => r
theorem pickO_some {α : Type} {r : List α} {x : α} : pickO r (some x) = x :: r := id rfl
theorem pick_nil {α : Type} {l : List α} : pick [] l = [] := id rfl
theorem pick_cons {α : Type} {i : Nat} {p : List Nat} {l : List α} : pick (i :: p) l = pickO (pick p l) l[i]? := by
  unfold pick pickO
  rw [List.filterMap_cons]
  cases l[i]? <;> rfl
/-! ### ends -/
theorem fzR_same {S : Sto} {d : Dv} (h : lowD S.length d = true) (hf : frz S S.length 8 d = d) : fzR S (.ok d S) = .ok d S := by
  simp only [fzR]
  rw [hf, if_pos ⟨Kept.rfl, h⟩, List.take_length]
theorem fzR_py {S : Sto} {d : Dv} {p : PyData} (h : pyP d = some p) : fzR S (.ok d S) = .ok d S := fzR_same (low_of h) (frz_py 8 h)
theorem kept_app {S T : Sto} : Kept S (S ++ T) := ⟨by rw [List.length_append]; omega, fun i hi => .inl (List.getElem?_append_left hi)⟩
theorem fzR_app {S T : Sto} {d e : Dv} (hf : frz (S ++ T) S.length 8 d = e) (h : lowD S.length e = true) : fzR S (.ok d (S ++ T)) = .ok e S := by
  simp only [fzR]
  rw [hf, if_pos ⟨kept_app, h⟩, List.take_left']
  rfl
theorem fzR_set {S T : Sto} {k : Nat} {ob : Ob} {d e : Dv} (ho : lowO S.length ob = true) (hf : frz (S.set k ob ++ T) S.length 8 d = e) (h : lowD S.length e = true) : fzR S (.ok d (S.set k ob ++ T)) = .ok e (S.set k ob) := by
  simp only [fzR]
  rw [hf, if_pos, List.take_left']
  · rw [List.length_set]
  · refine ⟨⟨by rw [List.length_append, List.length_set]; omega, fun i hi => ?_⟩, h⟩
    rw [List.getElem?_append_left (by rw [List.length_set]; exact hi)]
    by_cases e : k = i
    · subst e
      exact .inr ⟨ob, List.getElem?_set_self hi, ho⟩
    · exact .inl (List.getElem?_set_ne e)
theorem fzR_set0 {S : Sto} {k : Nat} {ob : Ob} {d e : Dv} (ho : lowO S.length ob = true) (hf : frz (S.set k ob) S.length 8 d = e) (h : lowD S.length e = true) : fzR S (.ok d (S.set k ob)) = .ok e (S.set k ob) := by
  have := fzR_set (T := []) (k := k) (d := d) ho (by rw [List.append_nil]; exact hf) h
  rwa [List.append_nil] at this
theorem fzRx_app {S T : Sto} {c : Nat} {d e : Dv} (hf : frz (S ++ T) S.length 8 d = e) (h : lowD S.length e = true) : fzR S (.exc c d (S ++ T)) = .exc c e S := by
  simp only [fzR]
  rw [hf, if_pos ⟨kept_app, h⟩, List.take_left']
  rfl
theorem fzRx_same {S : Sto} {c : Nat} {d : Dv} (h : lowD S.length d = true) (hf : frz S S.length 8 d = d) : fzR S (.exc c d S) = .exc c d S := by
  simp only [fzR]
  rw [hf, if_pos ⟨Kept.rfl, h⟩, List.take_length]
section
variable {α : Type} {f : α → Dv} {S T : Sto} {k : Nat} {ob : Ob}
theorem fz_en (E : En2 f) (a : α) : fzR S (.ok (f a) S) = .ok (f a) S := fzR_same (en_low E _ a) (en_frz E _ a)
theorem fz_enT (E : En2 f) (a : α) : fzR S (.ok (f a) (S ++ T)) = .ok (f a) S := fzR_app (en_frz E _ a) (en_low E _ a)
theorem fz_enS (E : En2 f) (a : α) (h : lowO S.length ob = true) : fzR S (.ok (f a) (S.set k ob)) = .ok (f a) (S.set k ob) := fzR_set0 h (en_frz E _ a) (en_low E _ a)
theorem fz_enST (E : En2 f) (a : α) (h : lowO S.length ob = true) : fzR S (.ok (f a) (S.set k ob ++ T)) = .ok (f a) (S.set k ob) := fzR_set h (en_frz E _ a) (en_low E _ a)
theorem fz_non : fzR S (.ok .non S) = .ok .non S := fzR_same (by rw [lowD]) rfl
theorem fz_nonT : fzR S (.ok .non (S ++ T)) = .ok .non S := fzR_app rfl (by rw [lowD])
theorem fz_nonS (h : lowO S.length ob = true) : fzR S (.ok .non (S.set k ob)) = .ok .non (S.set k ob) := fzR_set0 h rfl (by rw [lowD])
theorem fz_nonST (h : lowO S.length ob = true) : fzR S (.ok .non (S.set k ob ++ T)) = .ok .non (S.set k ob) := fzR_set h rfl (by rw [lowD])
theorem fz_int {i : Int} : fzR S (.ok (.int i) S) = .ok (.int i) S := fz_en iInt i
theorem fz_intT {i : Int} : fzR S (.ok (.int i) (S ++ T)) = .ok (.int i) S := fz_enT iInt i
theorem fz_bl {i : Bool} : fzR S (.ok (.bl i) S) = .ok (.bl i) S := fz_en iBl i
theorem fz_blT {i : Bool} : fzR S (.ok (.bl i) (S ++ T)) = .ok (.bl i) S := fz_enT iBl i
theorem fz_blS {i : Bool} (h : lowO S.length ob = true) : fzR S (.ok (.bl i) (S.set k ob)) = .ok (.bl i) (S.set k ob) := fz_enS iBl i h
theorem fz_blST {i : Bool} (h : lowO S.length ob = true) : fzR S (.ok (.bl i) (S.set k ob ++ T)) = .ok (.bl i) (S.set k ob) := fz_enST iBl i h
theorem fz_ints {i : List Int} : fzR S (.ok (.lst (i.map .int)) S) = .ok (.lst (i.map .int)) S := fz_en (iL Dv.int) i
theorem fz_intsT {i : List Int} : fzR S (.ok (.lst (i.map .int)) (S ++ T)) = .ok (.lst (i.map .int)) S := fz_enT (iL Dv.int) i
theorem fz_tints {i : List Int} : fzR S (.ok (.tup (i.map .int)) S) = .ok (.tup (i.map .int)) S := fz_en (iT Dv.int) i
theorem fz_tintsT {i : List Int} : fzR S (.ok (.tup (i.map .int)) (S ++ T)) = .ok (.tup (i.map .int)) S := fz_enT (iT Dv.int) i
end
theorem low_ints {n : Nat} : ∀ {l : List Int}, lowO n (.lst (l.map .int)) = true := fun {l} => by
  show lowL n (l.map .int) = true
  exact lows_of (pyPs_en (f := Dv.int) l)
theorem low_lst {α : Type} {f : α → Dv} (E : En2 f) {n : Nat} {l : List α} : lowO n (.lst (l.map f)) = true := lows_of (pyPs_en (f := f) l)
theorem fz_top {S S' : Sto} {b : Bool} : ∃ S2, fzR S (.ok (.bl b) S') = .ok (.bl b) S2 := by
  simp only [fzR]
  split
  · exact ⟨_, rfl⟩
  · exact ⟨_, rfl⟩
end DL

namespace DL
open PySem PySem.Spec PyProof.Rows L2
/-! ### loops -/
def Nxt (chk : Sto → Prop) (J : En → Sto → Prop) (rest : List Sm) (P : SRe → Prop) : SRe → Prop
  | .nx ρ S => chk S ∧ J ρ S
  | .ct ρ S => chk S ∧ J ρ S
  | .brk ρ S => Hold (.nx ρ S) rest P
  | .ret d S => P (.ret d S)
  | .exc c d ρ S => P (.exc c d ρ S)
  | .bad => False
section
variable {chk : Sto → Prop} {J : En → Sto → Prop} {rest : List Sm} {P : SRe → Prop} {ρ : En} {S : Sto} {d : Dv} {c : Nat}
theorem nxt_nx : Nxt chk J rest P (.nx ρ S) = (chk S ∧ J ρ S) := id rfl
theorem nxt_ct : Nxt chk J rest P (.ct ρ S) = (chk S ∧ J ρ S) := id rfl
theorem nxt_brk : Nxt chk J rest P (.brk ρ S) = Hold (.nx ρ S) rest P := id rfl
theorem nxt_ret : Nxt chk J rest P (.ret d S) = P (.ret d S) := id rfl
theorem nxt_exc : Nxt chk J rest P (.exc c d ρ S) = P (.exc c d ρ S) := id rfl
end
theorem for_hold {α : Type} {enc : α → Dv} {xs : List α} {it : It'} {g : Gt} {b : Sm} {ρ : En} {S S1 : Sto} {rest : List Sm} {P : SRe → Prop} {chk : Sto → Prop} (I : List α → En → Sto → Prop) (hf : it ρ S = .ok (xs.map enc, chk) S1) (hc : chk S1) (h0 : I xs ρ S1)
    (hs : ∀ x r ρ S, x ∈ xs → I (x :: r) ρ S → Hold (optS (g (enc x) ρ S) b) [] (Nxt chk (I r) rest P)) (hk : ∀ ρ S, I [] ρ S → Hold (.nx ρ S) rest P) : Hold (sFor it g b ρ S) rest P := by
  have key : ∀ (r : List α), (∀ x ∈ r, x ∈ xs) → ∀ ρ S, I r ρ S → Hold (forL (fun d ρ S => optS (g d ρ S) b) chk (r.map enc) ρ S) rest P := by
    intro r
    induction r with
    | nil => exact fun _ ρ S h => hk ρ S h
    | cons x r ih =>
      intro hm ρ S h
      have q := hs x r ρ S (hm x List.mem_cons_self) h
      have ih := ih fun y hy => hm y (List.mem_cons_of_mem _ hy)
      have q : Nxt chk (I r) rest P (optS (g (enc x) ρ S) b) := q
      rw [List.map_cons]
      unfold forL
      revert q
      cases optS (g (enc x) ρ S) b with
      | nx ρ' S' => intro q; show Hold (@ite _ _ (Classical.propDecidable _) _ _) _ _; rw [if_pos q.1]; exact ih ρ' S' q.2
      | ct ρ' S' => intro q; show Hold (@ite _ _ (Classical.propDecidable _) _ _) _ _; rw [if_pos q.1]; exact ih ρ' S' q.2
      | brk ρ' S' => exact fun q => q
      | ret d S' => intro q; unfold Hold; rw [fold_ret]; exact q
      | exc c d ρ' S' => intro q; unfold Hold; rw [fold_exc]; exact q
      | bad => exact fun q => q.elim
  unfold sFor
  rw [hf, Re.toS_ok, if_pos hc]
  exact key xs (fun _ h => h) ρ S1 h0
/-- for i in range(n): by the number of the turn -/
theorem for_range {n : Nat} {it : It'} {g : Gt} {b : Sm} {ρ : En} {S S1 : Sto} {rest : List Sm} {P : SRe → Prop} {chk : Sto → Prop} (I : Nat → En → Sto → Prop) (hf : it ρ S = .ok ((List.range n).map fun (i : Nat) => Dv.int (i : Int), chk) S1) (hc : chk S1) (h0 : I 0 ρ S1)
    (hs : ∀ i ρ S, i < n → I i ρ S → Hold (optS (g (.int (i : Int)) ρ S) b) [] (Nxt chk (I (i + 1)) rest P)) (hk : ∀ ρ S, I n ρ S → Hold (.nx ρ S) rest P) : Hold (sFor it g b ρ S) rest P := by
  refine for_hold (enc := fun (i : Nat) => Dv.int (i : Int)) (xs := List.range n) (fun r ρ S => ∃ i, i ≤ n ∧ r = List.range' i (n - i) ∧ I i ρ S) hf hc ⟨0, Nat.zero_le n, by rw [List.range_eq_range', Nat.sub_zero], h0⟩ ?_ ?_
  · rintro x r ρ S _ ⟨i, hi, e, h⟩
    by_cases hlt : i < n
    · rw [show n - i = (n - (i + 1)) + 1 by omega, List.range'_succ] at e
      obtain ⟨rfl, rfl⟩ := List.cons.inj e
      have q := hs x ρ S hlt h
      have mono : ∀ q, Nxt chk (I (x + 1)) rest P q → Nxt chk (fun ρ S => ∃ i, i ≤ n ∧ List.range' (x + 1) (n - (x + 1)) = List.range' i (n - i) ∧ I i ρ S) rest P q := fun q h => by
        cases q with
        | nx ρ S => exact ⟨h.1, x + 1, hlt, rfl, h.2⟩
        | ct ρ S => exact ⟨h.1, x + 1, hlt, rfl, h.2⟩
        | _ => exact h
      exact mono _ q
    · rw [show n - i = 0 by omega] at e
      cases e
  · rintro ρ S ⟨i, hi, e, h⟩
    have : i = n := by
      by_cases hlt : i < n
      · rw [show n - i = (n - (i + 1)) + 1 by omega, List.range'_succ] at e
        cases e
      · omega
    subst this
    exact hk ρ S h
/-- while: a measure falls -/
theorem while_hold {t : Tt} {b : Sm} {ρ : En} {S : Sto} {rest : List Sm} {P : SRe → Prop} {β : Type} (R : β → β → Prop) (wf : WellFounded R) (I : β → En → Sto → Prop) {m : β} (h0 : I m ρ S)
    (hs : ∀ m ρ S, I m ρ S → ∃ c S1, t ρ S = .ok c S1 ∧ (c = true → ∃ q, b ρ S1 = q ∧ Nxt (fun _ => True) (fun ρ' S' => ∃ m', R m' m ∧ I m' ρ' S') rest P q) ∧ (c = false → Hold (.nx ρ S1) rest P)) : Hold (sWhile t b ρ S) rest P := by
  have key : ∀ m ρ S, I m ρ S → ∃ n q, whileN t b n ρ S = q ∧ q ≠ .bad ∧ Hold q rest P := by
    intro m
    induction wf.apply m with
    | intro m _ ih =>
      intro ρ S h
      obtain ⟨c, S1, h1, h2, h3⟩ := hs m ρ S h
      cases c with
      | false => exact ⟨1, .nx ρ S1, by unfold whileN; rw [h1]; rfl, (by intro z; cases z), h3 rfl⟩
      | true =>
        obtain ⟨q, h4, h5⟩ := h2 rfl
        cases q with
        | nx ρ' S' =>
          obtain ⟨_, m', r, hi⟩ := h5
          obtain ⟨n, q, g1, g2, g3⟩ := ih m' r ρ' S' hi
          exact ⟨n + 1, q, by unfold whileN; rw [h1, Re.toS_ok, if_pos rfl, h4]; exact g1, g2, g3⟩
        | ct ρ' S' =>
          obtain ⟨_, m', r, hi⟩ := h5
          obtain ⟨n, q, g1, g2, g3⟩ := ih m' r ρ' S' hi
          exact ⟨n + 1, q, by unfold whileN; rw [h1, Re.toS_ok, if_pos rfl, h4]; exact g1, g2, g3⟩
        | brk ρ' S' => exact ⟨1, .nx ρ' S', by unfold whileN; rw [h1, Re.toS_ok, if_pos rfl, h4], (by intro z; cases z), h5⟩
        | ret d S' => exact ⟨1, .ret d S', by unfold whileN; rw [h1, Re.toS_ok, if_pos rfl, h4], (by intro z; cases z), by unfold Hold; rw [fold_ret]; exact h5⟩
        | exc c d ρ' S' => exact ⟨1, .exc c d ρ' S', by unfold whileN; rw [h1, Re.toS_ok, if_pos rfl, h4], (by intro z; cases z), by unfold Hold; rw [fold_exc]; exact h5⟩
        | bad => exact h5.elim
  obtain ⟨n, q, h1, h2, h3⟩ := key m ρ S h0
  rw [sWhile_of n h1 h2]
  exact h3
/-! ### ranges, numbered lists, pairs of lists -/
def rgK : List Dv → Sto → Re Wk := fun ds S => match ds with
  | [.int j] => if -(2 ^ 62) ≤ j ∧ j < 2 ^ 62 then .ok (rgD 0 j.toNat, always) S else .bad
  | _ => .bad
def rgK2 : List Dv → Sto → Re Wk := fun ds S => match ds with
  | [.int i, .int j] => if (-(2 ^ 62) ≤ i ∧ i < 2 ^ 62 ∧ -(2 ^ 62) ≤ j ∧ j < 2 ^ 62) then .ok (rgD i (j - i).toNat, always) S else .bad
  | _ => .bad
section
variable {ρ : En} {S : Sto}
theorem ap_iRg1 {a : Xs} : iRg1 a ρ S = (a ρ S).bind rgK := id rfl
theorem ap_iRg2 {a : Xs} : iRg2 a ρ S = (a ρ S).bind rgK2 := id rfl
theorem rgK_ok {j : Int} (h0 : -1000000000 ≤ j) (h1 : j ≤ 1000000000) : rgK [.int j] S = .ok ((List.range j.toNat).map fun (i : Nat) => Dv.int (i : Int), always) S := by
  show (if _ then _ else _) = _
  rw [if_pos ⟨by omega, by omega⟩]
  unfold rgD
  simp only [Int.zero_add]
theorem rgK2_ok {i j : Int} (h0 : -1000000000 ≤ i) (h1 : i ≤ 1000000000) (h2 : -1000000000 ≤ j) (h3 : j ≤ 1000000000) : rgK2 [.int i, .int j] S = .ok ((List.range (j - i).toNat).map fun (m : Nat) => Dv.int (i + (m : Int)), always) S := by
  show (if _ then _ else _) = _
  rw [if_pos ⟨by omega, by omega, by omega, by omega⟩]
  rfl
def enK : List Dv → Sto → Re Wk := fun ds S => match ds with
  | [d] => (itL d S).bind fun x S'' => .ok (enD 0 x.1, x.2) S''
  | _ => .bad
theorem ap_iEn {a : Xs} : iEn a ρ S = (a ρ S).bind enK := id rfl
def eI {α : Type} (f : α → Dv) (x : α × Nat) : Dv := .tup [.int (x.2 : Int), f x.1]
theorem enD_map {α : Type} {f : α → Dv} : ∀ (l : List α) (i : Nat), enD i (l.map f) = (l.zipIdx i).map (eI f)
  | [], _ => rfl
  | a :: r, i => by rw [List.map_cons, enD, enD_map r, List.zipIdx_cons, List.map_cons]; rfl
theorem enK_lst {α : Type} {f : α → Dv} {l : List α} : enK [.lst (l.map f)] S = .ok (l.zipIdx.map (eI f), always) S := by
  have e : enK [.lst (l.map f)] S = .ok (enD 0 (l.map f), always) S := rfl
  rw [e, enD_map]
theorem enK_ro {α : Type} {f : α → Dv} {l : List α} : enK [.ro (l.map f)] S = .ok (l.zipIdx.map (eI f), always) S := by
  have e : enK [.ro (l.map f)] S = .ok (enD 0 (l.map f), always) S := rfl
  rw [e, enD_map]
theorem enK_cell {α : Type} {f : α → Dv} {l : List α} {k : Nat} (h : S[k]? = some (.lst (l.map f))) : enK [.cell k] S = .ok (l.zipIdx.map (eI f), fun S' => S'[k]? = some (.lst (l.map f))) S := by
  show (match S[k]? with | some (.lst l) => Re.ok (l, fun S' : Sto => S'[k]? = some (Ob.lst l)) S | _ => .bad).bind _ = _
  rw [h, Re.bind_ok, enD_map]
def zpK : List Dv → Sto → Re Wk := fun ds S' => match ds with
  | [d, e] => match asT d, asT e with
    | some l, some m => .ok (zipD l m, always) S'
    | _, _ => (itL d S').bind fun x S1 => (itL e S1).bind fun y S2 => .ok (zipD x.1 y.1, fun S'' => x.2 S'' ∧ y.2 S'') S2
  | _ => .bad
theorem ap_iZp {a : Xs} : iZp a ρ S = (a ρ S).bind zpK := id rfl
theorem zipD_map {α β : Type} {f : α → Dv} {g : β → Dv} : ∀ (l : List α) (m : List β), zipD (l.map f) (m.map g) = (l.zip m).map (eP f g)
  | [], _ => by simp [zipD]
  | _ :: _, [] => by simp [zipD]
  | a :: r, b :: t => by rw [List.map_cons, List.map_cons, zipD, zipD_map r t]; rfl
theorem zpK_tup {α β : Type} {f : α → Dv} {g : β → Dv} {l : List α} {m : List β} : zpK [.tup (l.map f), .tup (m.map g)] S = .ok ((l.zip m).map (eP f g), always) S := by
  show Re.ok (zipD (l.map f) (m.map g), always) S = _
  rw [zipD_map]
theorem zpK_lst {α β : Type} {f : α → Dv} {g : β → Dv} {l : List α} {m : List β} : zpK [.lst (l.map f), .lst (m.map g)] S = .ok ((l.zip m).map (eP f g), fun _ => True ∧ True) S := by
  show Re.ok (zipD (l.map f) (m.map g), _) S = _
  rw [zipD_map]
  rfl
theorem turn_eI {α : Type} {f : α → Dv} {x : α × Nat} {g1 g2 : Gt} : gTp 2 (gsCons g1 (gsCons g2 gsNil)) (eI f x) ρ S = gsK (gsCons g2 gsNil) [f x.1] (g1 (.int x.2) ρ S) := by
  unfold eI
  rw [ap_gTp]
  simp only [List.length_cons, List.length_nil, if_true, Nat.reduceAdd, ap_gsCons]
theorem turn_eP {α β : Type} {f : α → Dv} {h : β → Dv} {x : α × β} {g1 g2 : Gt} : gTp 2 (gsCons g1 (gsCons g2 gsNil)) (eP f h x) ρ S = gsK (gsCons g2 gsNil) [h x.2] (g1 (f x.1) ρ S) := by
  unfold eP
  rw [ap_gTp]
  simp only [List.length_cons, List.length_nil, if_true, Nat.reduceAdd, ap_gsCons]
end
/-! ### readable lists, frozen or in a cell -/
inductive Rv (S : Sto) : Dv → List Dv → Prop
  | lst (l : List Dv) : Rv S (.lst l) l
  | ro (l : List Dv) : Rv S (.ro l) l
  | tup (l : List Dv) : Rv S (.tup l) l
  | ktup (l : List Dv) : Rv S (.ktup l) l
  | cell {k : Nat} {l : List Dv} (h : S[k]? = some (.lst l)) : Rv S (.cell k) l
def ckD (l : List Dv) : Dv → Sto → Prop
  | .cell k => fun S => S[k]? = some (.lst l)
  | _ => always
section
variable {S T : Sto} {d : Dv} {l : List Dv}
theorem Rv.app (h : Rv S d l) (T : Sto) : Rv (S ++ T) d l := by
  cases h with
  | cell h => exact .cell (by rw [List.getElem?_append_left (List.getElem?_eq_some_iff.mp h).1]; exact h)
  | lst => exact .lst _
  | ro => exact .ro _
  | tup => exact .tup _
  | ktup => exact .ktup _
theorem Rv.ix (h : Rv S d l) (i : Int) : oIx d (.int i) S = ixO i S (some l) := by
  cases h with
  | cell h => rw [ix_cell, h]; rfl
  | _ => rfl
theorem Rv.len (h : Rv S d l) : bLen [d] S = .ok (.int l.length) S := by
  cases h with
  | cell h => rw [len_cell, h]; rfl
  | _ => rfl
theorem Rv.q (h : Rv S d l) : asQ S d = some l := by
  cases h with
  | cell h => rw [asQ_cell, h]; rfl
  | _ => rfl
theorem Rv.it (h : Rv S d l) : itD d S = .ok (l, ckD l d) S := by
  cases h with
  | cell h => rw [it_cell, h]; rfl
  | _ => rfl
theorem Rv.ck (h : Rv S d l) : ckD l d S = True := by
  cases h with
  | cell h => exact eq_true h
  | _ => exact eq_true trivial
theorem Rv.ckT (h : Rv S d l) : ckD l d (S ++ T) = True := (h.app T).ck
theorem Rv.py {α : Type} {f : α → Dv} {xs : List α} (E : En2 f) (h : Rv S d (xs.map f)) : toPy S d = some (.list (xs.map E.g)) ∨ toPy S d = some (.tuple (xs.map E.g)) := by
  generalize e : xs.map f = l at h
  cases h with
  | lst => subst e; exact .inl (py_lst E xs)
  | ro => subst e; exact .inl (py_ro E xs)
  | tup => subst e; exact .inr (py_tup E xs)
  | ktup => subst e; exact .inr (py_ktup E xs)
  | cell h => subst e; exact .inl (py_cell E h)
theorem Rv.isin {α : Type} {f : α → Dv} {xs : List α} (h : Rv S d (xs.map f)) (E : En2 f) (hd : E.dep ≤ 31 := by decide) {neg : Bool} (a : α) [Decidable (a ∈ xs)] : inD neg (f a) d S = .ok (.bl (xor neg (decide (a ∈ xs)))) S := en_in E hd xs a (h.py E)
end
/-! ### texts, objects -/
def eCh1 (c : Nat) : Dv := .str ⟨#[c]⟩
section
variable {S T : Sto} {ρ : En}
theorem len_str {x : Str} (h : x.length ≤ 16777216) : bLen [.str x] S = .ok (.int x.length) S := by
  show (if x.length ≤ sizeLine then Re.ok (Dv.int x.length) S else .bad) = _
  rw [if_pos (by rw [sizeLine_is]; exact h)]
theorem it_str {x : Str} : itD (.str x) S = .ok (x.cps.toList.map eCh1, always) S := id rfl
theorem in_ch {neg : Bool} {c : Nat} {z : Str} : inD neg (eCh1 c) (.str z) S = .ok (.bl (xor neg (decide (c ∈ z.cps.toList)))) S := id rfl
theorem app_map {α : Type} {f : α → Dv} {l : List α} {a : α} : l.map f ++ [f a] = (l ++ [a]).map f := by rw [List.map_append]; rfl
theorem fld_cell {c k : Nat} {f : Str} {y : Dv} {fs : List (Str × Dv)} (h : S[k]? = some (.ins c fs)) (hl : fs.length < 1000) : fldK c f ρ y (.cell k) S = .nx ρ (S.set k (.ins c (putD f y fs))) := by
  show (match S[k]? with | some (.ins c' fs) => if c' = c ∧ fs.length < 1000 then SRe.nx ρ (S.set k (.ins c (putD f y fs))) else .bad | _ => .bad) = _
  rw [h]
  exact if_pos ⟨rfl, hl⟩
end
section
variable {α : Type} {f : α → Dv} {S T : Sto}
theorem fzx_en (E : En2 f) (c : Nat) (a : α) : fzR S (.exc c (f a) S) = .exc c (f a) S := fzRx_same (en_low E _ a) (en_frz E _ a)
theorem fzx_enT (E : En2 f) (c : Nat) (a : α) : fzR S (.exc c (f a) (S ++ T)) = .exc c (f a) S := fzRx_app (en_frz E _ a) (en_low E _ a)
theorem en_notin {α : Type} {f : α → Dv} (E : En2 f) {neg : Bool} {k : Nat} {l : List α} {a : α} [Decidable (a ∈ l)] {S : Sto} (h : S[k]? = some (.lst (l.map f))) (hd : E.dep ≤ 31 := by decide) : inD neg (f a) (.cell k) S = .ok (.bl (xor neg (decide (a ∈ l)))) S := (Rv.cell h).isin E hd a
end
/-- readable lists alone -/
inductive Rl (S : Sto) : Dv → List Dv → Prop
  | lst (l : List Dv) : Rl S (.lst l) l
  | ro (l : List Dv) : Rl S (.ro l) l
  | cell {k : Nat} {l : List Dv} (h : S[k]? = some (.lst l)) : Rl S (.cell k) l
section
variable {S T : Sto} {d : Dv} {l : List Dv}
theorem Rl.rv (h : Rl S d l) : Rv S d l := by
  cases h with
  | cell h => exact .cell h
  | lst => exact .lst _
  | ro => exact .ro _
theorem Rl.app (h : Rl S d l) (T : Sto) : Rl (S ++ T) d l := by
  cases h with
  | cell h => exact .cell (by rw [List.getElem?_append_left (List.getElem?_eq_some_iff.mp h).1]; exact h)
  | lst => exact .lst _
  | ro => exact .ro _
theorem Rl.setI (h : Rl S d l) {j c : Nat} {fs : List (Str × Dv)} (hj : S[j]? = some (.ins c fs)) (ob : Ob) : Rl (S.set j ob) d l := by
  cases h with
  | @cell k _ h =>
    refine .cell ?_
    by_cases e : j = k
    · subst e; rw [h] at hj; cases hj
    · rw [List.getElem?_set_ne e]; exact h
  | lst => exact .lst _
  | ro => exact .ro _
theorem Rl.r (h : Rl S d l) : asR S d = some l := by
  cases h with
  | cell h => rw [asR_cell, h]; rfl
  | _ => rfl
theorem Rl.tup (h : Rl S d l) : bTuple [d] S = .ok (.tup l) S := by
  cases h with
  | cell h => rw [tuple_cell, h]; rfl
  | lst => rfl
  | ro => rfl
theorem Rl.en {α : Type} {f : α → Dv} {xs : List α} (h : Rl S d (xs.map f)) : enK [d] S = .ok (xs.zipIdx.map (eI f), ckD (xs.map f) d) S := by
  generalize e : xs.map f = l at h
  cases h with
  | lst => subst e; exact enK_lst
  | ro => subst e; exact enK_ro
  | cell h => subst e; exact enK_cell h
theorem Rl.py {α : Type} {f : α → Dv} {xs : List α} (E : En2 f) (h : Rl S d (xs.map f)) : toPy S d = some (.list (xs.map E.g)) := by
  generalize e : xs.map f = l at h
  cases h with
  | lst => subst e; exact py_lst E xs
  | ro => subst e; exact py_ro E xs
  | cell h => subst e; exact py_cell E h
theorem Rl.index {xs : List Nm} (h : Rl S d (xs.map eN')) : ∀ n, mIndex d [eN' n] S = condR (n ∈ xs) (.ok (.int (ixOf n xs)) S) := fun n => en_indexC iNm (by decide) (h.py iNm)
theorem set_old {j : Nat} {ob : Ob} (h : j < S.length) : (S ++ T).set j ob = S.set j ob ++ T := List.set_append_left _ _ h
end
end DL

namespace DL
open PySem PySem.Spec PyProof.Rows L2
/-! ### names -/
def letters : Str := "abcdefghijklmnopqrstuvwxyz"
def nmOk (x : Str) : Bool := decide (1 ≤ x.length) && decide (x.length ≤ 8) && x.cps.toList.all fun c => decide (c ∈ letters.cps.toList)
local macro_rules | `(tactic| exists $es,*) => `(tactic| simp (disch := first | omega | assumption | (simp only [*, Option.isSome_some, List.length_map, List.length_set]; done) | (simp only [*, Option.isSome_some, List.length_map, List.length_set]; omega)) only [DL.hold_seq, DL.hold_nx, DL.hold_nx0, DL.hold_ret, DL.hold_brk, DL.hold_ct, DL.hold_exc, DL.toR_nx, DL.toR_ret, DL.toR_exc, DL.bnd_ok, DL.bnd_exc, DL.toS_ok, DL.toS_exc, DL.opt_some, DL.condR_true, DL.condR_of, DL.condS_true, DL.condS_of, DL.condR_bind, DL.condR_toS, DL.condR_condR, DL.getV_some, DL.ap_eV, DL.ap_eC, DL.ap_e1, DL.ap_e2, DL.ap_aNil, DL.ap_aCons, DL.ap_eN, DL.ap_eCall, DL.ap_eCallK, DL.ap_eMth, DL.ap_eMth0, DL.ap_eMthK, DL.ap_eM, DL.asB_bl, DL.ap_tV, DL.ap_tAnd, DL.ap_tOr, DL.ap_tNot, DL.ap_tYes, DL.ap_eIf, DL.andK_bl, DL.orK_bl, DL.ap_eAnd, DL.ap_eOr, DL.ap_uNot, DL.ap_uNeg, DL.ap_xNone, DL.asO_int, DL.ap_xSome, DL.ap_eSl, DL.chK_int, DL.ap_eCh, DL.ap_sNil, DL.ap_sBrk, DL.ap_sCt, DL.ap_sExpr, DL.ap_sRet, DL.ap_sSet, DL.ap_sIf, DL.ap_sAsg, DL.parK_ok, DL.ap_sPar, DL.ap_sRaise, DL.ap_sFld, DL.ap_gN, DL.ap_gTp, DL.ap_gsNil, DL.gsK_some, DL.ap_gsCons, DL.gUl_lst, DL.ap_gUl, DL.ap_gIx, DL.ixK_cell, DL.ixK2_int, DL.putO_lst, DL.putO_0, DL.putO_1, DL.putO_2, DL.asL_lst, DL.asR_lst, DL.asR_ro, DL.asQ_lst, DL.asQ_ro, DL.asQ_tup, DL.asQ_ktup, DL.lstO_lst, DL.asL_cell, DL.asR_cell, DL.asQ_cell, DL.isL_def, DL.add_int, DL.oI_int, DL.oIc_int, DL.oB_int, DL.is_non, DL.is_int, DL.is_str, DL.is_lst, DL.is_tup, DL.is_cell, DL.isn_non, DL.isn_int, DL.isn_str, DL.isn_lst, DL.isn_tup, DL.isn_cell, DL.mkT_ok, DL.mkL_ok, DL.mkC_ok, DL.add_lst, DL.addK_ok, DL.addC_ap, DL.lenO_some, DL.len_cell, DL.len_lst, DL.len_tup, DL.len_ktup, DL.len_ro, DL.bLen_of, DL.bInt_int, DL.bInt_bl, DL.bAbs_int, DL.bMax_int, DL.bMin_int, DL.lstK_some, DL.lstCK_some, DL.tupK_some, DL.ktupK_some, DL.bList_of, DL.bListC_of, DL.bTuple_tup, DL.tuple_cell, DL.tuple_lst, DL.tuple_ro, DL.tuple_ktup, DL.bTuple_of, DL.bTupleK_of, DL.mApp_ap, DL.appO_lst, DL.mPopAt_ap, DL.mulL_2, DL.someR_ok, DL.ixO_some, DL.ix_cell, DL.ix_lst, DL.ix_tup, DL.ix_ktup, DL.ix_ro, DL.ix_of, DL.sl_tup, DL.sl_lst, DL.slK_some, DL.sl_cell, DL.cut_take, DL.cut_drop, DL.take_map, DL.drop_map, DL.atI_map, DL.atI_0, DL.atI_1, DL.atI_2, DL.atI_3, DL.wipe_nil, DL.wipe_cons, DL.noexc_k, DL.noexc_c, DL.ap_turn, DL.trnK_some, DL.ap_lcD, DL.ap_eLc, DL.ap_eLcC, DL.lcK_typed, DL.lcT_ok, DL.lcT_cond, DL.always_is, DL.ite_ok, DL.ite_int, DL.ite_bl, DL.fm_int, DL.fm_bl, DL.fm_str, DL.fm_if, DL.ap_iSeq, DL.it_lst, DL.it_ro, DL.it_tup, DL.it_ktup, DL.itO_lst, DL.it_cell, DL.any_lst, DL.all_lst, DL.any_map', DL.all_map', DL.push_len, DL.push_push, DL.get_0, DL.get_1, DL.get_2, DL.set_0, DL.set_1, DL.set_2, DL.set_len, DL.set_set, DL.get_app, DL.set_app, DL.get_aft, DL.get_aft0, DL.set_aft, DL.set_aft0, DL.str_eq, DL.int_eq, DL.ints_eq, DL.intsT_eq, DL.id_is, DL.eq_nn, DL.eq_nilI, DL.eq_nilN, DL.sum_lst, DL.set_ints, DL.app_ints, DL.ite_true', DL.ite_false', DL.pickO_some, DL.pick_nil, DL.pick_cons, DL.fzR_py, DL.fz_non, DL.fz_nonT, DL.fz_int, DL.fz_intT, DL.fz_bl, DL.fz_blT, DL.fz_ints, DL.fz_intsT, DL.fz_tints, DL.fz_tintsT, DL.nxt_nx, DL.nxt_ct, DL.nxt_brk, DL.nxt_ret, DL.nxt_exc, DL.ap_iRg1, DL.ap_iRg2, DL.rgK_ok, DL.rgK2_ok, DL.ap_iEn, DL.enK_lst, DL.enK_ro, DL.ap_iZp, DL.zpK_tup, DL.zpK_lst, DL.turn_eI, DL.turn_eP, DL.len_str, DL.it_str, DL.in_ch, DL.app_map, reduceDIte, Nat.reduceEqDiff, dreduceDIte, Int.reduceNegSucc, Nat.reduceOr, Nat.reducePow, Nat.reduceGT, Nat.reduceBneDiff, Nat.reduceSubDiff, Nat.reduceMod, Int.reduceGE, Int.reduceToNat, Int.reduceEq, dreduceIte, Int.reduceGT, Int.reducePow, Nat.reduceBNe, Int.reduceDiv, Int.reduceMul, reduceCtorEq, Int.reduceBEq, Nat.reduceBeqDiff, String.reduceNe, String.reduceBNe, Int.reduceNe, String.reduceBEq, Int.reduceSub, Int.reduceAbs, Int.reduceLT, Int.reduceNeg, Nat.reduceDiv, Int.reduceBNe, Int.reduceDvd, Int.reduceAdd, Nat.reduceBEq, Nat.reduceSucc, String.reduceEq, Int.reduceLE, Int.reduceMod, reduceIte, Int.reduceFDiv, Int.reduceFMod, startD, List.map_cons, List.map_nil, List.length_cons, List.length_nil, List.replicate_succ, List.replicate_zero, Nat.reduceAdd, Nat.reduceSub, Nat.reduceMul, List.cons_append, List.nil_append, List.getElem?_cons_zero, List.getElem?_cons_succ, List.set_cons_zero, List.set_cons_succ, ↓reduceIte, decide_eq_true_eq, Bool.false_eq_true, Int.natCast_inj, Int.toNat_natCast, Option.isSome_some, Option.isSome_none, Option.isNone_none, Option.isNone_some, Bool.or_eq_true, Bool.and_eq_true, Bool.not_eq_true', decide_eq_false_iff_not, Bool.not_true, Bool.not_false, beq_self_eq_true, Option.map_some, Option.bind_some, true_and, and_true, false_and, and_false, or_true, true_or, or_false, false_or, Nat.reduceLeDiff, Nat.reduceLT, Bool.false_and, Bool.true_and, Bool.and_false, Bool.and_true, Nat.zero_le, List.length_map, List.length_set, List.length_append, List.length_zipIdx, List.length_range, gt_iff_lt, not_true_eq_false, not_false_eq_true, eq_self, Bool.false_xor, Bool.true_xor, Bool.xor_false, List.not_mem_nil, decide_true, decide_false, $[$es:term],*])
theorem is_name_ok {S : Sto} {x : Str} (h : x.length ≤ 1000) : m_is_name [.str x] S = .ok (.bl (nmOk x)) S := by
  apply fz_hold
  have hl : x.cps.toList.length ≤ 1000 := h
  exists b_is_name
  by_cases h1 : (1 : Int) ≤ x.length
  · exists h1
    by_cases h2 : (x.length : Int) ≤ 8
    · exists h2
      rw [nmOk, decide_eq_true (by omega), decide_eq_true (by omega)]
      rfl
    · exists h2
      rw [nmOk, decide_eq_false (by omega : ¬ x.length ≤ 8), Bool.and_false, Bool.false_and]
  · exists h1
    rw [nmOk, decide_eq_false (by omega : ¬ 1 ≤ x.length), Bool.false_and, Bool.false_and]
theorem is_name_nm {S : Sto} {x : Nm} (h : x.1.length ≤ 1000) : m_is_name [eN' x] S = .ok (.bl (nmOk x.1)) S := is_name_ok h
def chkK (known : List Nm) : List Nm → Option (Nat × Nm)
  | [] => none
  | n :: r => if nmOk n.1 = false then some (8, n) else if n ∈ known then some (3, n) else chkK (known ++ [n]) r
def raiseO {α : Type} (f : α → Dv) (S : Sto) : Option (Nat × α) → Re Dv
  | none => .ok .non S
  | some x => .exc x.1 (f x.2) S
theorem check_kinds_ok {S : Sto} {d : Dv} {ks : List Nm} (h : Rv S d (ks.map eN')) (hl : ks.length ≤ 1000) (hn : ∀ k ∈ ks, k.1.length ≤ 1000) : m_check_kinds [d] S = raiseO eN' S (chkK [] ks) := by
  apply fz_hold
  exists b_check_kinds
  refine for_hold (enc := eN') (xs := ks) (chk := ckD (ks.map eN') d) (S1 := S ++ [.lst []]) (fun r ρ S' => ∃ kn x, S' = S ++ [.lst (kn.map eN')] ∧ ρ = [some d, some (.cell S.length), x] ∧ chkK kn r = chkK [] ks ∧ kn.length + r.length = ks.length) ?_ ?_ ?_ ?_ ?_
  · exists (h.app _).it
  · exists h.ckT
  · exact ⟨[], none, rfl, rfl, rfl, by simp⟩
  · rintro x r ρ S' hx ⟨kn, y, rfl, rfl, e, e2⟩
    have hxl := hn x hx
    rw [List.length_cons] at e2
    exists is_name_nm hxl
    cases h1 : nmOk x.1 with
    | false =>
      exists h1
      rw [← e, chkK, if_pos h1]
      exact fzx_enT iNm 8 x
    | true =>
      exists h1
      have q := en_notin iNm (neg := false) (k := S.length) (l := kn) (a := x) (S := S ++ [.lst (kn.map eN')]) get_0
      by_cases h2 : x ∈ kn
      · exists q, h2
        rw [← e, chkK, if_neg (by rw [h1]; simp), if_pos h2]
        exact fzx_enT iNm 3 x
      · exists q, h2, h.ckT
        exact ⟨kn ++ [x], some (eN' x), rfl, rfl, by rw [← e, chkK, if_neg (by rw [h1]; simp), if_neg h2], by rw [List.length_append, List.length_singleton]; omega⟩
  · rintro ρ S' ⟨kn, y, rfl, rfl, e, e2⟩
    exists e
    rw [← e]
    rfl
end DL

namespace DL
open PySem PySem.Spec PyProof.Rows L2
/-! ### rules -/
abbrev Ru := Nm × Nm × Nm
def eR (r : Ru) : Dv := .tup [eN' r.1, eN' r.2.1, eN' r.2.2]
def rl (r : Ru) : List Nm := [r.1, r.2.1, r.2.2]
instance iR : En2 eR := ⟨fun r => (iT eN').g (rl r), 1, fun r => (iT eN').py (rl r), fun r => (iT eN').lay (rl r), fun r => (iT eN').depth (rl r), fun a b => by
  rw [(iT eN').eqv]
  obtain ⟨a1, a2, a3⟩ := a
  obtain ⟨b1, b2, b3⟩ := b
  simp [rl]⟩
section
variable {S : Sto} {h : Bool → Bool}
theorem it_eR {r : Ru} : itD (eR r) S = .ok ((rl r).map eN', always) S := id rfl
local macro_rules | `(tactic| exists $es,*) => `(tactic| simp (disch := first | omega | assumption | (simp only [*, Option.isSome_some, List.length_map, List.length_set]; done) | (simp only [*, Option.isSome_some, List.length_map, List.length_set]; omega)) only [DL.hold_seq, DL.hold_nx, DL.hold_nx0, DL.hold_ret, DL.hold_brk, DL.hold_ct, DL.hold_exc, DL.toR_nx, DL.toR_ret, DL.toR_exc, DL.bnd_ok, DL.bnd_exc, DL.toS_ok, DL.toS_exc, DL.opt_some, DL.condR_true, DL.condR_of, DL.condS_true, DL.condS_of, DL.condR_bind, DL.condR_toS, DL.condR_condR, DL.getV_some, DL.ap_eV, DL.ap_eC, DL.ap_e1, DL.ap_e2, DL.ap_aNil, DL.ap_aCons, DL.ap_eN, DL.ap_eCall, DL.ap_eCallK, DL.ap_eMth, DL.ap_eMth0, DL.ap_eMthK, DL.ap_eM, DL.asB_bl, DL.ap_tV, DL.ap_tAnd, DL.ap_tOr, DL.ap_tNot, DL.ap_tYes, DL.ap_eIf, DL.andK_bl, DL.orK_bl, DL.ap_eAnd, DL.ap_eOr, DL.ap_uNot, DL.ap_uNeg, DL.ap_xNone, DL.asO_int, DL.ap_xSome, DL.ap_eSl, DL.chK_int, DL.ap_eCh, DL.ap_sNil, DL.ap_sBrk, DL.ap_sCt, DL.ap_sExpr, DL.ap_sRet, DL.ap_sSet, DL.ap_sIf, DL.ap_sAsg, DL.parK_ok, DL.ap_sPar, DL.ap_sRaise, DL.ap_sFld, DL.ap_gN, DL.ap_gTp, DL.ap_gsNil, DL.gsK_some, DL.ap_gsCons, DL.gUl_lst, DL.ap_gUl, DL.ap_gIx, DL.ixK_cell, DL.ixK2_int, DL.putO_lst, DL.putO_0, DL.putO_1, DL.putO_2, DL.asL_lst, DL.asR_lst, DL.asR_ro, DL.asQ_lst, DL.asQ_ro, DL.asQ_tup, DL.asQ_ktup, DL.lstO_lst, DL.asL_cell, DL.asR_cell, DL.asQ_cell, DL.isL_def, DL.add_int, DL.oI_int, DL.oIc_int, DL.oB_int, DL.is_non, DL.is_int, DL.is_str, DL.is_lst, DL.is_tup, DL.is_cell, DL.isn_non, DL.isn_int, DL.isn_str, DL.isn_lst, DL.isn_tup, DL.isn_cell, DL.mkT_ok, DL.mkL_ok, DL.mkC_ok, DL.add_lst, DL.addK_ok, DL.addC_ap, DL.lenO_some, DL.len_cell, DL.len_lst, DL.len_tup, DL.len_ktup, DL.len_ro, DL.bLen_of, DL.bInt_int, DL.bInt_bl, DL.bAbs_int, DL.bMax_int, DL.bMin_int, DL.lstK_some, DL.lstCK_some, DL.tupK_some, DL.ktupK_some, DL.bList_of, DL.bListC_of, DL.bTuple_tup, DL.tuple_cell, DL.tuple_lst, DL.tuple_ro, DL.tuple_ktup, DL.bTuple_of, DL.bTupleK_of, DL.mApp_ap, DL.appO_lst, DL.mPopAt_ap, DL.mulL_2, DL.someR_ok, DL.ixO_some, DL.ix_cell, DL.ix_lst, DL.ix_tup, DL.ix_ktup, DL.ix_ro, DL.ix_of, DL.sl_tup, DL.sl_lst, DL.slK_some, DL.sl_cell, DL.cut_take, DL.cut_drop, DL.take_map, DL.drop_map, DL.atI_map, DL.atI_0, DL.atI_1, DL.atI_2, DL.atI_3, DL.wipe_nil, DL.wipe_cons, DL.noexc_k, DL.noexc_c, DL.ap_turn, DL.trnK_some, DL.ap_lcD, DL.ap_eLc, DL.ap_eLcC, DL.lcK_typed, DL.lcT_ok, DL.lcT_cond, DL.always_is, DL.ite_ok, DL.ite_int, DL.ite_bl, DL.fm_int, DL.fm_bl, DL.fm_str, DL.fm_if, DL.ap_iSeq, DL.it_lst, DL.it_ro, DL.it_tup, DL.it_ktup, DL.itO_lst, DL.it_cell, DL.any_lst, DL.all_lst, DL.any_map', DL.all_map', DL.push_len, DL.push_push, DL.get_0, DL.get_1, DL.get_2, DL.set_0, DL.set_1, DL.set_2, DL.set_len, DL.set_set, DL.get_app, DL.set_app, DL.get_aft, DL.get_aft0, DL.set_aft, DL.set_aft0, DL.str_eq, DL.int_eq, DL.ints_eq, DL.intsT_eq, DL.id_is, DL.eq_nn, DL.eq_nilI, DL.eq_nilN, DL.sum_lst, DL.set_ints, DL.app_ints, DL.ite_true', DL.ite_false', DL.pickO_some, DL.pick_nil, DL.pick_cons, DL.fzR_py, DL.fz_non, DL.fz_nonT, DL.fz_int, DL.fz_intT, DL.fz_bl, DL.fz_blT, DL.fz_ints, DL.fz_intsT, DL.fz_tints, DL.fz_tintsT, DL.nxt_nx, DL.nxt_ct, DL.nxt_brk, DL.nxt_ret, DL.nxt_exc, DL.ap_iRg1, DL.ap_iRg2, DL.rgK_ok, DL.rgK2_ok, DL.ap_iEn, DL.enK_lst, DL.enK_ro, DL.ap_iZp, DL.zpK_tup, DL.zpK_lst, DL.turn_eI, DL.turn_eP, DL.len_str, DL.it_str, DL.in_ch, DL.app_map, DL.it_eR, reduceDIte, Nat.reduceEqDiff, dreduceDIte, Int.reduceNegSucc, Nat.reduceOr, Nat.reducePow, Nat.reduceGT, Nat.reduceBneDiff, Nat.reduceSubDiff, Nat.reduceMod, Int.reduceGE, Int.reduceToNat, Int.reduceEq, dreduceIte, Int.reduceGT, Int.reducePow, Nat.reduceBNe, Int.reduceDiv, Int.reduceMul, reduceCtorEq, Int.reduceBEq, Nat.reduceBeqDiff, String.reduceNe, String.reduceBNe, Int.reduceNe, String.reduceBEq, Int.reduceSub, Int.reduceAbs, Int.reduceLT, Int.reduceNeg, Nat.reduceDiv, Int.reduceBNe, Int.reduceDvd, Int.reduceAdd, Nat.reduceBEq, Nat.reduceSucc, String.reduceEq, Int.reduceLE, Int.reduceMod, reduceIte, Int.reduceFDiv, Int.reduceFMod, startD, List.map_cons, List.map_nil, List.length_cons, List.length_nil, List.replicate_succ, List.replicate_zero, Nat.reduceAdd, Nat.reduceSub, Nat.reduceMul, List.cons_append, List.nil_append, List.getElem?_cons_zero, List.getElem?_cons_succ, List.set_cons_zero, List.set_cons_succ, ↓reduceIte, decide_eq_true_eq, Bool.false_eq_true, Int.natCast_inj, Int.toNat_natCast, Option.isSome_some, Option.isSome_none, Option.isNone_none, Option.isNone_some, Bool.or_eq_true, Bool.and_eq_true, Bool.not_eq_true', decide_eq_false_iff_not, Bool.not_true, Bool.not_false, beq_self_eq_true, Option.map_some, Option.bind_some, true_and, and_true, false_and, and_false, or_true, true_or, or_false, false_or, Nat.reduceLeDiff, Nat.reduceLT, Bool.false_and, Bool.true_and, Bool.and_false, Bool.and_true, Nat.zero_le, List.length_map, List.length_set, List.length_append, List.length_zipIdx, List.length_range, gt_iff_lt, not_true_eq_false, not_false_eq_true, eq_self, Bool.false_xor, Bool.true_xor, Bool.xor_false, List.not_mem_nil, decide_true, decide_false, $[$es:term],*])
theorem ix_eR0 {r : Ru} : oIx (eR r) (.int 0) S = .ok (eN' r.1) S := by unfold eR; exists id_is
local macro_rules | `(tactic| exists $es,*) => `(tactic| simp (disch := first | omega | assumption | (simp only [*, Option.isSome_some, List.length_map, List.length_set]; done) | (simp only [*, Option.isSome_some, List.length_map, List.length_set]; omega)) only [DL.hold_seq, DL.hold_nx, DL.hold_nx0, DL.hold_ret, DL.hold_brk, DL.hold_ct, DL.hold_exc, DL.toR_nx, DL.toR_ret, DL.toR_exc, DL.bnd_ok, DL.bnd_exc, DL.toS_ok, DL.toS_exc, DL.opt_some, DL.condR_true, DL.condR_of, DL.condS_true, DL.condS_of, DL.condR_bind, DL.condR_toS, DL.condR_condR, DL.getV_some, DL.ap_eV, DL.ap_eC, DL.ap_e1, DL.ap_e2, DL.ap_aNil, DL.ap_aCons, DL.ap_eN, DL.ap_eCall, DL.ap_eCallK, DL.ap_eMth, DL.ap_eMth0, DL.ap_eMthK, DL.ap_eM, DL.asB_bl, DL.ap_tV, DL.ap_tAnd, DL.ap_tOr, DL.ap_tNot, DL.ap_tYes, DL.ap_eIf, DL.andK_bl, DL.orK_bl, DL.ap_eAnd, DL.ap_eOr, DL.ap_uNot, DL.ap_uNeg, DL.ap_xNone, DL.asO_int, DL.ap_xSome, DL.ap_eSl, DL.chK_int, DL.ap_eCh, DL.ap_sNil, DL.ap_sBrk, DL.ap_sCt, DL.ap_sExpr, DL.ap_sRet, DL.ap_sSet, DL.ap_sIf, DL.ap_sAsg, DL.parK_ok, DL.ap_sPar, DL.ap_sRaise, DL.ap_sFld, DL.ap_gN, DL.ap_gTp, DL.ap_gsNil, DL.gsK_some, DL.ap_gsCons, DL.gUl_lst, DL.ap_gUl, DL.ap_gIx, DL.ixK_cell, DL.ixK2_int, DL.putO_lst, DL.putO_0, DL.putO_1, DL.putO_2, DL.asL_lst, DL.asR_lst, DL.asR_ro, DL.asQ_lst, DL.asQ_ro, DL.asQ_tup, DL.asQ_ktup, DL.lstO_lst, DL.asL_cell, DL.asR_cell, DL.asQ_cell, DL.isL_def, DL.add_int, DL.oI_int, DL.oIc_int, DL.oB_int, DL.is_non, DL.is_int, DL.is_str, DL.is_lst, DL.is_tup, DL.is_cell, DL.isn_non, DL.isn_int, DL.isn_str, DL.isn_lst, DL.isn_tup, DL.isn_cell, DL.mkT_ok, DL.mkL_ok, DL.mkC_ok, DL.add_lst, DL.addK_ok, DL.addC_ap, DL.lenO_some, DL.len_cell, DL.len_lst, DL.len_tup, DL.len_ktup, DL.len_ro, DL.bLen_of, DL.bInt_int, DL.bInt_bl, DL.bAbs_int, DL.bMax_int, DL.bMin_int, DL.lstK_some, DL.lstCK_some, DL.tupK_some, DL.ktupK_some, DL.bList_of, DL.bListC_of, DL.bTuple_tup, DL.tuple_cell, DL.tuple_lst, DL.tuple_ro, DL.tuple_ktup, DL.bTuple_of, DL.bTupleK_of, DL.mApp_ap, DL.appO_lst, DL.mPopAt_ap, DL.mulL_2, DL.someR_ok, DL.ixO_some, DL.ix_cell, DL.ix_lst, DL.ix_tup, DL.ix_ktup, DL.ix_ro, DL.ix_of, DL.sl_tup, DL.sl_lst, DL.slK_some, DL.sl_cell, DL.cut_take, DL.cut_drop, DL.take_map, DL.drop_map, DL.atI_map, DL.atI_0, DL.atI_1, DL.atI_2, DL.atI_3, DL.wipe_nil, DL.wipe_cons, DL.noexc_k, DL.noexc_c, DL.ap_turn, DL.trnK_some, DL.ap_lcD, DL.ap_eLc, DL.ap_eLcC, DL.lcK_typed, DL.lcT_ok, DL.lcT_cond, DL.always_is, DL.ite_ok, DL.ite_int, DL.ite_bl, DL.fm_int, DL.fm_bl, DL.fm_str, DL.fm_if, DL.ap_iSeq, DL.it_lst, DL.it_ro, DL.it_tup, DL.it_ktup, DL.itO_lst, DL.it_cell, DL.any_lst, DL.all_lst, DL.any_map', DL.all_map', DL.push_len, DL.push_push, DL.get_0, DL.get_1, DL.get_2, DL.set_0, DL.set_1, DL.set_2, DL.set_len, DL.set_set, DL.get_app, DL.set_app, DL.get_aft, DL.get_aft0, DL.set_aft, DL.set_aft0, DL.str_eq, DL.int_eq, DL.ints_eq, DL.intsT_eq, DL.id_is, DL.eq_nn, DL.eq_nilI, DL.eq_nilN, DL.sum_lst, DL.set_ints, DL.app_ints, DL.ite_true', DL.ite_false', DL.pickO_some, DL.pick_nil, DL.pick_cons, DL.fzR_py, DL.fz_non, DL.fz_nonT, DL.fz_int, DL.fz_intT, DL.fz_bl, DL.fz_blT, DL.fz_ints, DL.fz_intsT, DL.fz_tints, DL.fz_tintsT, DL.nxt_nx, DL.nxt_ct, DL.nxt_brk, DL.nxt_ret, DL.nxt_exc, DL.ap_iRg1, DL.ap_iRg2, DL.rgK_ok, DL.rgK2_ok, DL.ap_iEn, DL.enK_lst, DL.enK_ro, DL.ap_iZp, DL.zpK_tup, DL.zpK_lst, DL.turn_eI, DL.turn_eP, DL.len_str, DL.it_str, DL.in_ch, DL.app_map, DL.it_eR, DL.ix_eR0, reduceDIte, Nat.reduceEqDiff, dreduceDIte, Int.reduceNegSucc, Nat.reduceOr, Nat.reducePow, Nat.reduceGT, Nat.reduceBneDiff, Nat.reduceSubDiff, Nat.reduceMod, Int.reduceGE, Int.reduceToNat, Int.reduceEq, dreduceIte, Int.reduceGT, Int.reducePow, Nat.reduceBNe, Int.reduceDiv, Int.reduceMul, reduceCtorEq, Int.reduceBEq, Nat.reduceBeqDiff, String.reduceNe, String.reduceBNe, Int.reduceNe, String.reduceBEq, Int.reduceSub, Int.reduceAbs, Int.reduceLT, Int.reduceNeg, Nat.reduceDiv, Int.reduceBNe, Int.reduceDvd, Int.reduceAdd, Nat.reduceBEq, Nat.reduceSucc, String.reduceEq, Int.reduceLE, Int.reduceMod, reduceIte, Int.reduceFDiv, Int.reduceFMod, startD, List.map_cons, List.map_nil, List.length_cons, List.length_nil, List.replicate_succ, List.replicate_zero, Nat.reduceAdd, Nat.reduceSub, Nat.reduceMul, List.cons_append, List.nil_append, List.getElem?_cons_zero, List.getElem?_cons_succ, List.set_cons_zero, List.set_cons_succ, ↓reduceIte, decide_eq_true_eq, Bool.false_eq_true, Int.natCast_inj, Int.toNat_natCast, Option.isSome_some, Option.isSome_none, Option.isNone_none, Option.isNone_some, Bool.or_eq_true, Bool.and_eq_true, Bool.not_eq_true', decide_eq_false_iff_not, Bool.not_true, Bool.not_false, beq_self_eq_true, Option.map_some, Option.bind_some, true_and, and_true, false_and, and_false, or_true, true_or, or_false, false_or, Nat.reduceLeDiff, Nat.reduceLT, Bool.false_and, Bool.true_and, Bool.and_false, Bool.and_true, Nat.zero_le, List.length_map, List.length_set, List.length_append, List.length_zipIdx, List.length_range, gt_iff_lt, not_true_eq_false, not_false_eq_true, eq_self, Bool.false_xor, Bool.true_xor, Bool.xor_false, List.not_mem_nil, decide_true, decide_false, $[$es:term],*])
theorem ix_eR1 {r : Ru} : oIx (eR r) (.int 1) S = .ok (eN' r.2.1) S := by unfold eR; exists id_is
local macro_rules | `(tactic| exists $es,*) => `(tactic| simp (disch := first | omega | assumption | (simp only [*, Option.isSome_some, List.length_map, List.length_set]; done) | (simp only [*, Option.isSome_some, List.length_map, List.length_set]; omega)) only [DL.hold_seq, DL.hold_nx, DL.hold_nx0, DL.hold_ret, DL.hold_brk, DL.hold_ct, DL.hold_exc, DL.toR_nx, DL.toR_ret, DL.toR_exc, DL.bnd_ok, DL.bnd_exc, DL.toS_ok, DL.toS_exc, DL.opt_some, DL.condR_true, DL.condR_of, DL.condS_true, DL.condS_of, DL.condR_bind, DL.condR_toS, DL.condR_condR, DL.getV_some, DL.ap_eV, DL.ap_eC, DL.ap_e1, DL.ap_e2, DL.ap_aNil, DL.ap_aCons, DL.ap_eN, DL.ap_eCall, DL.ap_eCallK, DL.ap_eMth, DL.ap_eMth0, DL.ap_eMthK, DL.ap_eM, DL.asB_bl, DL.ap_tV, DL.ap_tAnd, DL.ap_tOr, DL.ap_tNot, DL.ap_tYes, DL.ap_eIf, DL.andK_bl, DL.orK_bl, DL.ap_eAnd, DL.ap_eOr, DL.ap_uNot, DL.ap_uNeg, DL.ap_xNone, DL.asO_int, DL.ap_xSome, DL.ap_eSl, DL.chK_int, DL.ap_eCh, DL.ap_sNil, DL.ap_sBrk, DL.ap_sCt, DL.ap_sExpr, DL.ap_sRet, DL.ap_sSet, DL.ap_sIf, DL.ap_sAsg, DL.parK_ok, DL.ap_sPar, DL.ap_sRaise, DL.ap_sFld, DL.ap_gN, DL.ap_gTp, DL.ap_gsNil, DL.gsK_some, DL.ap_gsCons, DL.gUl_lst, DL.ap_gUl, DL.ap_gIx, DL.ixK_cell, DL.ixK2_int, DL.putO_lst, DL.putO_0, DL.putO_1, DL.putO_2, DL.asL_lst, DL.asR_lst, DL.asR_ro, DL.asQ_lst, DL.asQ_ro, DL.asQ_tup, DL.asQ_ktup, DL.lstO_lst, DL.asL_cell, DL.asR_cell, DL.asQ_cell, DL.isL_def, DL.add_int, DL.oI_int, DL.oIc_int, DL.oB_int, DL.is_non, DL.is_int, DL.is_str, DL.is_lst, DL.is_tup, DL.is_cell, DL.isn_non, DL.isn_int, DL.isn_str, DL.isn_lst, DL.isn_tup, DL.isn_cell, DL.mkT_ok, DL.mkL_ok, DL.mkC_ok, DL.add_lst, DL.addK_ok, DL.addC_ap, DL.lenO_some, DL.len_cell, DL.len_lst, DL.len_tup, DL.len_ktup, DL.len_ro, DL.bLen_of, DL.bInt_int, DL.bInt_bl, DL.bAbs_int, DL.bMax_int, DL.bMin_int, DL.lstK_some, DL.lstCK_some, DL.tupK_some, DL.ktupK_some, DL.bList_of, DL.bListC_of, DL.bTuple_tup, DL.tuple_cell, DL.tuple_lst, DL.tuple_ro, DL.tuple_ktup, DL.bTuple_of, DL.bTupleK_of, DL.mApp_ap, DL.appO_lst, DL.mPopAt_ap, DL.mulL_2, DL.someR_ok, DL.ixO_some, DL.ix_cell, DL.ix_lst, DL.ix_tup, DL.ix_ktup, DL.ix_ro, DL.ix_of, DL.sl_tup, DL.sl_lst, DL.slK_some, DL.sl_cell, DL.cut_take, DL.cut_drop, DL.take_map, DL.drop_map, DL.atI_map, DL.atI_0, DL.atI_1, DL.atI_2, DL.atI_3, DL.wipe_nil, DL.wipe_cons, DL.noexc_k, DL.noexc_c, DL.ap_turn, DL.trnK_some, DL.ap_lcD, DL.ap_eLc, DL.ap_eLcC, DL.lcK_typed, DL.lcT_ok, DL.lcT_cond, DL.always_is, DL.ite_ok, DL.ite_int, DL.ite_bl, DL.fm_int, DL.fm_bl, DL.fm_str, DL.fm_if, DL.ap_iSeq, DL.it_lst, DL.it_ro, DL.it_tup, DL.it_ktup, DL.itO_lst, DL.it_cell, DL.any_lst, DL.all_lst, DL.any_map', DL.all_map', DL.push_len, DL.push_push, DL.get_0, DL.get_1, DL.get_2, DL.set_0, DL.set_1, DL.set_2, DL.set_len, DL.set_set, DL.get_app, DL.set_app, DL.get_aft, DL.get_aft0, DL.set_aft, DL.set_aft0, DL.str_eq, DL.int_eq, DL.ints_eq, DL.intsT_eq, DL.id_is, DL.eq_nn, DL.eq_nilI, DL.eq_nilN, DL.sum_lst, DL.set_ints, DL.app_ints, DL.ite_true', DL.ite_false', DL.pickO_some, DL.pick_nil, DL.pick_cons, DL.fzR_py, DL.fz_non, DL.fz_nonT, DL.fz_int, DL.fz_intT, DL.fz_bl, DL.fz_blT, DL.fz_ints, DL.fz_intsT, DL.fz_tints, DL.fz_tintsT, DL.nxt_nx, DL.nxt_ct, DL.nxt_brk, DL.nxt_ret, DL.nxt_exc, DL.ap_iRg1, DL.ap_iRg2, DL.rgK_ok, DL.rgK2_ok, DL.ap_iEn, DL.enK_lst, DL.enK_ro, DL.ap_iZp, DL.zpK_tup, DL.zpK_lst, DL.turn_eI, DL.turn_eP, DL.len_str, DL.it_str, DL.in_ch, DL.app_map, DL.it_eR, DL.ix_eR0, DL.ix_eR1, reduceDIte, Nat.reduceEqDiff, dreduceDIte, Int.reduceNegSucc, Nat.reduceOr, Nat.reducePow, Nat.reduceGT, Nat.reduceBneDiff, Nat.reduceSubDiff, Nat.reduceMod, Int.reduceGE, Int.reduceToNat, Int.reduceEq, dreduceIte, Int.reduceGT, Int.reducePow, Nat.reduceBNe, Int.reduceDiv, Int.reduceMul, reduceCtorEq, Int.reduceBEq, Nat.reduceBeqDiff, String.reduceNe, String.reduceBNe, Int.reduceNe, String.reduceBEq, Int.reduceSub, Int.reduceAbs, Int.reduceLT, Int.reduceNeg, Nat.reduceDiv, Int.reduceBNe, Int.reduceDvd, Int.reduceAdd, Nat.reduceBEq, Nat.reduceSucc, String.reduceEq, Int.reduceLE, Int.reduceMod, reduceIte, Int.reduceFDiv, Int.reduceFMod, startD, List.map_cons, List.map_nil, List.length_cons, List.length_nil, List.replicate_succ, List.replicate_zero, Nat.reduceAdd, Nat.reduceSub, Nat.reduceMul, List.cons_append, List.nil_append, List.getElem?_cons_zero, List.getElem?_cons_succ, List.set_cons_zero, List.set_cons_succ, ↓reduceIte, decide_eq_true_eq, Bool.false_eq_true, Int.natCast_inj, Int.toNat_natCast, Option.isSome_some, Option.isSome_none, Option.isNone_none, Option.isNone_some, Bool.or_eq_true, Bool.and_eq_true, Bool.not_eq_true', decide_eq_false_iff_not, Bool.not_true, Bool.not_false, beq_self_eq_true, Option.map_some, Option.bind_some, true_and, and_true, false_and, and_false, or_true, true_or, or_false, false_or, Nat.reduceLeDiff, Nat.reduceLT, Bool.false_and, Bool.true_and, Bool.and_false, Bool.and_true, Nat.zero_le, List.length_map, List.length_set, List.length_append, List.length_zipIdx, List.length_range, gt_iff_lt, not_true_eq_false, not_false_eq_true, eq_self, Bool.false_xor, Bool.true_xor, Bool.xor_false, List.not_mem_nil, decide_true, decide_false, $[$es:term],*])
theorem ix_eR2 {r : Ru} : oIx (eR r) (.int 2) S = .ok (eN' r.2.2) S := by unfold eR; exists id_is
theorem eq_nm {a b : Nm} : oEqF h (eN' a) (eN' b) S = .ok (.bl (h (decide (a = b)))) S := en_eq iNm (by decide) a b
theorem eq_eR {a b : Ru} : oEqF h (eR a) (eR b) S = .ok (.bl (h (decide (a = b)))) S := en_eq iR (by decide) a b
theorem is_eR {r : Ru} : oIs (eR r) .non S = .ok (.bl false) S := id rfl
theorem isn_eR {r : Ru} : oIsNot (eR r) .non S = .ok (.bl true) S := id rfl
theorem eq_nilR {l : List Ru} : oEqF h (.lst (l.map eR)) (.lst []) S = .ok (.bl (h l.isEmpty)) S := eq_nil iR (by decide)
theorem rl_len {r : Ru} : (rl r).length = 3 := id rfl
end
theorem _root_.DL.Rv.isNm {S : Sto} {d : Dv} {ks : List Nm} (h : Rv S d (ks.map eN')) : ∀ (neg : Bool) (a : Nm), inD neg (eN' a) d S = .ok (.bl (xor neg (decide (a ∈ ks)))) S := fun neg a => h.isin iNm (by decide) a
/-- a rule that is none over these kinds -/
def badR (ks : List Nm) (r : Ru) : Bool := ((rl r).any fun n => !decide (n ∈ ks)) || decide (r.2.2 = r.1)
local macro_rules | `(tactic| exists $es,*) => `(tactic| simp (disch := first | omega | assumption | (simp only [*, Option.isSome_some, List.length_map, List.length_set]; done) | (simp only [*, Option.isSome_some, List.length_map, List.length_set]; omega)) only [DL.hold_seq, DL.hold_nx, DL.hold_nx0, DL.hold_ret, DL.hold_brk, DL.hold_ct, DL.hold_exc, DL.toR_nx, DL.toR_ret, DL.toR_exc, DL.bnd_ok, DL.bnd_exc, DL.toS_ok, DL.toS_exc, DL.opt_some, DL.condR_true, DL.condR_of, DL.condS_true, DL.condS_of, DL.condR_bind, DL.condR_toS, DL.condR_condR, DL.getV_some, DL.ap_eV, DL.ap_eC, DL.ap_e1, DL.ap_e2, DL.ap_aNil, DL.ap_aCons, DL.ap_eN, DL.ap_eCall, DL.ap_eCallK, DL.ap_eMth, DL.ap_eMth0, DL.ap_eMthK, DL.ap_eM, DL.asB_bl, DL.ap_tV, DL.ap_tAnd, DL.ap_tOr, DL.ap_tNot, DL.ap_tYes, DL.ap_eIf, DL.andK_bl, DL.orK_bl, DL.ap_eAnd, DL.ap_eOr, DL.ap_uNot, DL.ap_uNeg, DL.ap_xNone, DL.asO_int, DL.ap_xSome, DL.ap_eSl, DL.chK_int, DL.ap_eCh, DL.ap_sNil, DL.ap_sBrk, DL.ap_sCt, DL.ap_sExpr, DL.ap_sRet, DL.ap_sSet, DL.ap_sIf, DL.ap_sAsg, DL.parK_ok, DL.ap_sPar, DL.ap_sRaise, DL.ap_sFld, DL.ap_gN, DL.ap_gTp, DL.ap_gsNil, DL.gsK_some, DL.ap_gsCons, DL.gUl_lst, DL.ap_gUl, DL.ap_gIx, DL.ixK_cell, DL.ixK2_int, DL.putO_lst, DL.putO_0, DL.putO_1, DL.putO_2, DL.asL_lst, DL.asR_lst, DL.asR_ro, DL.asQ_lst, DL.asQ_ro, DL.asQ_tup, DL.asQ_ktup, DL.lstO_lst, DL.asL_cell, DL.asR_cell, DL.asQ_cell, DL.isL_def, DL.add_int, DL.oI_int, DL.oIc_int, DL.oB_int, DL.is_non, DL.is_int, DL.is_str, DL.is_lst, DL.is_tup, DL.is_cell, DL.isn_non, DL.isn_int, DL.isn_str, DL.isn_lst, DL.isn_tup, DL.isn_cell, DL.mkT_ok, DL.mkL_ok, DL.mkC_ok, DL.add_lst, DL.addK_ok, DL.addC_ap, DL.lenO_some, DL.len_cell, DL.len_lst, DL.len_tup, DL.len_ktup, DL.len_ro, DL.bLen_of, DL.bInt_int, DL.bInt_bl, DL.bAbs_int, DL.bMax_int, DL.bMin_int, DL.lstK_some, DL.lstCK_some, DL.tupK_some, DL.ktupK_some, DL.bList_of, DL.bListC_of, DL.bTuple_tup, DL.tuple_cell, DL.tuple_lst, DL.tuple_ro, DL.tuple_ktup, DL.bTuple_of, DL.bTupleK_of, DL.mApp_ap, DL.appO_lst, DL.mPopAt_ap, DL.mulL_2, DL.someR_ok, DL.ixO_some, DL.ix_cell, DL.ix_lst, DL.ix_tup, DL.ix_ktup, DL.ix_ro, DL.ix_of, DL.sl_tup, DL.sl_lst, DL.slK_some, DL.sl_cell, DL.cut_take, DL.cut_drop, DL.take_map, DL.drop_map, DL.atI_map, DL.atI_0, DL.atI_1, DL.atI_2, DL.atI_3, DL.wipe_nil, DL.wipe_cons, DL.noexc_k, DL.noexc_c, DL.ap_turn, DL.trnK_some, DL.ap_lcD, DL.ap_eLc, DL.ap_eLcC, DL.lcK_typed, DL.lcT_ok, DL.lcT_cond, DL.always_is, DL.ite_ok, DL.ite_int, DL.ite_bl, DL.fm_int, DL.fm_bl, DL.fm_str, DL.fm_if, DL.ap_iSeq, DL.it_lst, DL.it_ro, DL.it_tup, DL.it_ktup, DL.itO_lst, DL.it_cell, DL.any_lst, DL.all_lst, DL.any_map', DL.all_map', DL.push_len, DL.push_push, DL.get_0, DL.get_1, DL.get_2, DL.set_0, DL.set_1, DL.set_2, DL.set_len, DL.set_set, DL.get_app, DL.set_app, DL.get_aft, DL.get_aft0, DL.set_aft, DL.set_aft0, DL.str_eq, DL.int_eq, DL.ints_eq, DL.intsT_eq, DL.id_is, DL.eq_nn, DL.eq_nilI, DL.eq_nilN, DL.sum_lst, DL.set_ints, DL.app_ints, DL.ite_true', DL.ite_false', DL.pickO_some, DL.pick_nil, DL.pick_cons, DL.fzR_py, DL.fz_non, DL.fz_nonT, DL.fz_int, DL.fz_intT, DL.fz_bl, DL.fz_blT, DL.fz_ints, DL.fz_intsT, DL.fz_tints, DL.fz_tintsT, DL.nxt_nx, DL.nxt_ct, DL.nxt_brk, DL.nxt_ret, DL.nxt_exc, DL.ap_iRg1, DL.ap_iRg2, DL.rgK_ok, DL.rgK2_ok, DL.ap_iEn, DL.enK_lst, DL.enK_ro, DL.ap_iZp, DL.zpK_tup, DL.zpK_lst, DL.turn_eI, DL.turn_eP, DL.len_str, DL.it_str, DL.in_ch, DL.app_map, DL.it_eR, DL.ix_eR0, DL.ix_eR1, DL.ix_eR2, DL.eq_nm, DL.eq_eR, DL.is_eR, DL.isn_eR, DL.eq_nilR, DL.rl_len, reduceDIte, Nat.reduceEqDiff, dreduceDIte, Int.reduceNegSucc, Nat.reduceOr, Nat.reducePow, Nat.reduceGT, Nat.reduceBneDiff, Nat.reduceSubDiff, Nat.reduceMod, Int.reduceGE, Int.reduceToNat, Int.reduceEq, dreduceIte, Int.reduceGT, Int.reducePow, Nat.reduceBNe, Int.reduceDiv, Int.reduceMul, reduceCtorEq, Int.reduceBEq, Nat.reduceBeqDiff, String.reduceNe, String.reduceBNe, Int.reduceNe, String.reduceBEq, Int.reduceSub, Int.reduceAbs, Int.reduceLT, Int.reduceNeg, Nat.reduceDiv, Int.reduceBNe, Int.reduceDvd, Int.reduceAdd, Nat.reduceBEq, Nat.reduceSucc, String.reduceEq, Int.reduceLE, Int.reduceMod, reduceIte, Int.reduceFDiv, Int.reduceFMod, startD, List.map_cons, List.map_nil, List.length_cons, List.length_nil, List.replicate_succ, List.replicate_zero, Nat.reduceAdd, Nat.reduceSub, Nat.reduceMul, List.cons_append, List.nil_append, List.getElem?_cons_zero, List.getElem?_cons_succ, List.set_cons_zero, List.set_cons_succ, ↓reduceIte, decide_eq_true_eq, Bool.false_eq_true, Int.natCast_inj, Int.toNat_natCast, Option.isSome_some, Option.isSome_none, Option.isNone_none, Option.isNone_some, Bool.or_eq_true, Bool.and_eq_true, Bool.not_eq_true', decide_eq_false_iff_not, Bool.not_true, Bool.not_false, beq_self_eq_true, Option.map_some, Option.bind_some, true_and, and_true, false_and, and_false, or_true, true_or, or_false, false_or, Nat.reduceLeDiff, Nat.reduceLT, Bool.false_and, Bool.true_and, Bool.and_false, Bool.and_true, Nat.zero_le, List.length_map, List.length_set, List.length_append, List.length_zipIdx, List.length_range, gt_iff_lt, not_true_eq_false, not_false_eq_true, eq_self, Bool.false_xor, Bool.true_xor, Bool.xor_false, List.not_mem_nil, decide_true, decide_false, $[$es:term],*])
theorem check_rule_ok {S : Sto} {d : Dv} {ks : List Nm} {r : Ru} (h : Rv S d (ks.map eN')) : m_check_rule [d, eR r] S = if badR ks r = true then .exc 9 (eR r) S else .ok .non S := by
  apply fz_hold
  exists b_check_rule, h.isNm
  rw [badR]
  by_cases h1 : ((rl r).any fun n => !decide (n ∈ ks)) = true
  · exists h1
    exact fzx_en iR 9 r
  · rw [Bool.not_eq_true] at h1
    exists h1
    by_cases h2 : r.2.2 = r.1
    · exists h2
      exact fzx_en iR 9 r
    · exists h2
/-! ### the order of the rules -/
def pI (ks : List Nm) (r : Ru) : PyData := .tuple [.int (ixOf r.1 ks), .int (ixOf r.2.1 ks), .int (ixOf r.2.2 ks)]
def dI (ks : List Nm) (r : Ru) : Dv := .tup [.int (ixOf r.1 ks), .int (ixOf r.2.1 ks), .int (ixOf r.2.2 ks)]
noncomputable def rank (ks : List Nm) (rs : List Ru) : List Ru := rs.mergeSort (PySem.W.dataLe false (pI ks))
theorem rank_perm (ks : List Nm) (rs : List Ru) : (rank ks rs).Perm rs := List.mergeSort_perm _ _
theorem zip_maps {α β γ : Type} (f : α → β) (g : α → γ) : ∀ l : List α, (l.map f).zip (l.map g) = l.map fun a => (f a, g a)
  | [] => rfl
  | a :: r => by simp [zip_maps f g r]
/-- typed things sorted by their data -/
theorem sorted_by {α : Type} {f : α → Dv} {g : α → PyData} {xs : List α} {S : Sto} (hp : ∀ a, toPy S (f a) = some (g a)) (ha : ∀ a b, PySem.W.alike (g a) (g b) = true) (ht : (∀ a, tupD (g a) = true) ∨ ∀ a, flatD (g a) = true) (hd : ∀ a, (g a).depth ≤ 16) (hl : xs.length ≤ 16777216) :
    bSorted [.lst (xs.map f)] S = .ok (.lst ((xs.mergeSort (PySem.W.dataLe false g)).map f)) S := by
  have e : sortD (xs.map f) (xs.map g) = (xs.mergeSort (PySem.W.dataLe false g)).map f := by
    unfold sortD
    rw [zip_maps, ← List.map_mergeSort (r := PySem.W.dataLe false g) (f := fun r => (f r, g r)) (s := PySem.W.dataLe false fun b : Dv × PyData => b.2) (fun a _ b _ => rfl), List.map_map]
    rfl
  have o : sortOk (xs.map g) = true := by
    unfold sortOk
    simp only [Bool.and_eq_true, Bool.or_eq_true, List.all_eq_true, List.mem_map, decide_eq_true_eq, List.length_map]
    refine ⟨?_, ?_, ?_, by rw [sizeLine_is]; exact hl⟩
    · rintro _ ⟨a, _, rfl⟩ _ ⟨b, _, rfl⟩
      exact ha a b
    · rcases ht with h | h
      · exact .inl (by rintro _ ⟨a, _, rfl⟩; exact h a)
      · exact .inr (by rintro _ ⟨a, _, rfl⟩; exact h a)
    · rintro _ ⟨a, _, rfl⟩
      exact hd a
  have p : ∀ l : List α, toPys S (l.map f) = some (l.map g) := by
    intro l
    induction l with
    | nil => rw [List.map_nil, toPys]; rfl
    | cons a r ih => rw [List.map_cons, toPys, hp a, ih]; rfl
  unfold bSorted
  dsimp only
  rw [asR_lst]
  dsimp only
  rw [p xs]
  dsimp only
  rw [if_pos o, e]
theorem sorted_dI {S : Sto} {ks : List Nm} {rs : List Ru} (h : rs.length ≤ 16777216) : bSorted [.lst (rs.map (dI ks))] S = .ok (.lst ((rank ks rs).map (dI ks))) S :=
  sorted_by (fun r => by unfold dI pI; rw [toPy]; simp [toPys, toPy]) (fun a b => by simp [pI, PySem.W.alike, PySem.W.alikeAll]) (.inl fun _ => rfl) (fun a => by simp [pI, PyData.depth, PyData.depthAll]) h
theorem ixOf_out {α : Type} [DecidableEq α] {a : α} : ∀ {l : List α}, a ∉ l → ixOf a l = l.length
  | [], _ => rfl
  | b :: r, h => by
    rw [List.mem_cons, not_or] at h
    rw [ixOf, if_neg fun z => h.1 z.symm, ixOf_out h.2]; rfl
theorem atI_ix {S : Sto} {ks : List Nm} {x : Nm} : someR S (atI (ks.map eN') ((ixOf x ks : Nat) : Int)) = condR (x ∈ ks) (.ok (eN' x) S) := by
  by_cases h : x ∈ ks
  · rw [condR_of h, atI_nat (x := eN' x) (by omega) (by rw [Int.toNat_natCast, List.getElem?_map, ixOf_get h]; rfl)]
    rfl
  · unfold condR
    rw [if_neg h]
    unfold atI ixN
    rw [if_pos (by omega), ixOf_out h, if_neg (by rw [List.length_map]; omega)]
    rfl
theorem it_dI {S : Sto} {ks : List Nm} {r : Ru} : itD (dI ks r) S = .ok ((rl r).map fun x => .int ((ixOf x ks : Nat) : Int), always) S := id rfl
theorem map_dI {ks : List Nm} {rs : List Ru} : (rs.map fun x => Dv.tup (((rl x).map fun x => ((ixOf x ks : Nat) : Int)).map Dv.int)) = rs.map (dI ks) := id rfl
theorem fm_eR {α : Type} {xs : List α} {h : α → Ru} : (xs.filterMap fun x => some (eR (h x))) = (xs.map h).map eR := by
  rw [List.map_map]
  exact congrFun List.filterMap_eq_map' xs
theorem fm_nm {α : Type} {xs : List α} {h : α → Nm} : (xs.filterMap fun x => some (eN' (h x))) = (xs.map h).map eN' := by
  rw [List.map_map]
  exact congrFun List.filterMap_eq_map' xs
theorem fmi_eR {α : Type} {xs : List α} {h : α → Ru} {c : α → Prop} [DecidablePred c] : (xs.filterMap fun x => if c x then some (eR (h x)) else none) = ((xs.filter fun x => decide (c x)).map h).map eR := by rw [fm_if, List.map_map]; rfl
theorem fmi_nm {α : Type} {xs : List α} {h : α → Nm} {c : α → Prop} [DecidablePred c] : (xs.filterMap fun x => if c x then some (eN' (h x)) else none) = ((xs.filter fun x => decide (c x)).map h).map eN' := by rw [fm_if, List.map_map]; rfl
theorem fmi_int {α : Type} {xs : List α} {h : α → Int} {c : α → Prop} [DecidablePred c] : (xs.filterMap fun x => if c x then some (Dv.int (h x)) else none) = ((xs.filter fun x => decide (c x)).map h).map Dv.int := by rw [fm_if, List.map_map]; rfl
theorem tup3_eR {a b c : Nm} : Dv.tup [eN' a, eN' b, eN' c] = eR (a, b, c) := id rfl
theorem app_rs {l m : List Ru} : l.map eR ++ m.map eR = (l ++ m).map eR := List.map_append.symm
theorem map_id'' {α : Type} {xs : List α} : (xs.map fun x => x) = xs := List.map_id' xs
theorem fm_dI {ks : List Nm} {rs : List Ru} : (rs.filterMap fun x => some (Dv.tup (((rl x).map fun x => ((ixOf x ks : Nat) : Int)).map Dv.int))) = rs.map (dI ks) := fm_some
theorem tup_eR {r : Ru} : Dv.tup ((rl r).map eN') = eR r := id rfl
theorem eta_nm {l : List Nm} : (l.map fun x => eN' x) = l.map eN' := id rfl
theorem eta_eR {l : List Ru} : (l.map fun x => eR x) = l.map eR := id rfl
theorem eta_dI {l : List Ru} {ks : List Nm} : (l.map fun x => dI ks x) = l.map (dI ks) := id rfl
/-! ### a book -/
def bk (ks : List Nm) (R : List Ru) : Dv := .ins 0 [("kept_kinds", .ktup (ks.map eN')), ("kept_rules", .tup (R.map eR))]
section
variable {S : Sto} {ks : List Nm} {R : List Ru}
theorem bk_kinds : fldD 0 "kept_kinds" (bk ks R) S = .ok (.ktup (ks.map eN')) S := id rfl
theorem bk_rules : fldD 0 "kept_rules" (bk ks R) S = .ok (.tup (R.map eR)) S := id rfl
theorem bk_of : isOf 0 S (bk ks R) = true := id rfl
theorem bk_isL {d : Dv} {l : List Dv} (h : Rv S d l) : (asR S d).isSome = true ∨ asT d = some l := by
  cases h with
  | cell h => rw [asR_cell, h]; exact .inl rfl
  | lst => exact .inl rfl
  | ro => exact .inl rfl
  | tup => exact .inr rfl
  | ktup => exact .inr rfl
end
/-- the rules of a list, tried in turn -/
def chkR (ks : List Nm) (known : List Ru) : List Ru → Option (Nat × Ru)
  | [] => none
  | r :: l => if badR ks r = true then some (9, r) else if r ∈ known then some (4, r) else chkR ks (known ++ [r]) l
end DL

namespace DL
open PySem PySem.Spec PyProof.Rows L2
theorem rank_len {ks : List Nm} {rs : List Ru} : (rank ks rs).length = rs.length := (rank_perm ks rs).length_eq
theorem lowL_en {α : Type} {f : α → Dv} (E : En2 f) (n : Nat) (l : List α) : lowL n (l.map f) = true := lows_of (pyPs_en (f := f) l)
theorem low_bk {n : Nat} {ks : List Nm} {R : List Ru} : lowF n [("kept_kinds", .ktup (ks.map eN')), ("kept_rules", .tup (R.map eR))] = true := by
  rw [lowF, lowF, lowF, lowD, lowD, lowL_en iNm, lowL_en iR]; rfl
theorem chkR_none {ks : List Nm} : ∀ {rs kn : List Ru}, chkR ks kn rs = none → ∀ r ∈ rs, badR ks r = false
  | [], _, _ => fun r h => by cases h
  | r :: l, kn, h => by
    unfold chkR at h
    split at h
    · cases h
    · rename_i h1
      split at h
      · cases h
      · intro x hx
        rcases List.mem_cons.mp hx with rfl | hx
        · simpa using h1
        · exact chkR_none h x hx
theorem badR_in {ks : List Nm} {r : Ru} (h : badR ks r = false) : ∀ n ∈ rl r, n ∈ ks := by
  unfold badR at h
  simp only [Bool.or_eq_false_iff, List.any_eq_false, Bool.not_eq_true', decide_eq_false_iff_not] at h
  intro n hn
  have := h.1 n hn
  simpa using this
def raiseB {α : Type} (f : α → Dv) (S S' : Sto) : Option (Nat × α) → Re Dv
  | none => .ok .non S'
  | some x => .exc x.1 (f x.2) S
/-- Book(kinds, rules) -/
def bookO (ks : List Nm) (rs : List Ru) (b : Dv) (S : Sto) : Re Dv := match chkK [] ks with
  | some x => .exc x.1 (eN' x.2) S
  | none => match chkR ks [] rs with
    | some x => .exc x.1 (eR x.2) S
    | none => .ok b S
theorem fzRx_setless {S T : Sto} {c : Nat} {d : Dv} (h : lowD S.length d = true) (hf : frz (S ++ T) S.length 8 d = d) : fzR S (.exc c d (S ++ T)) = .exc c d S := fzRx_app hf h
local macro_rules | `(tactic| exists $es,*) => `(tactic| simp (disch := first | omega | assumption | (simp only [*, Option.isSome_some, List.length_map, List.length_set]; done) | (simp only [*, Option.isSome_some, List.length_map, List.length_set]; omega)) only [DL.fmi_int, DL.fmi_nm, DL.fmi_eR, DL.hold_seq, DL.hold_nx, DL.hold_nx0, DL.hold_ret, DL.hold_brk, DL.hold_ct, DL.hold_exc, DL.toR_nx, DL.toR_ret, DL.toR_exc, DL.bnd_ok, DL.bnd_exc, DL.toS_ok, DL.toS_exc, DL.opt_some, DL.condR_true, DL.condR_of, DL.condS_true, DL.condS_of, DL.condR_bind, DL.condR_toS, DL.condR_condR, DL.getV_some, DL.ap_eV, DL.ap_eC, DL.ap_e1, DL.ap_e2, DL.ap_aNil, DL.ap_aCons, DL.ap_eN, DL.ap_eCall, DL.ap_eCallK, DL.ap_eMth, DL.ap_eMth0, DL.ap_eMthK, DL.ap_eM, DL.asB_bl, DL.ap_tV, DL.ap_tAnd, DL.ap_tOr, DL.ap_tNot, DL.ap_tYes, DL.ap_eIf, DL.andK_bl, DL.orK_bl, DL.ap_eAnd, DL.ap_eOr, DL.ap_uNot, DL.ap_uNeg, DL.ap_xNone, DL.asO_int, DL.ap_xSome, DL.ap_eSl, DL.chK_int, DL.ap_eCh, DL.ap_sNil, DL.ap_sBrk, DL.ap_sCt, DL.ap_sExpr, DL.ap_sRet, DL.ap_sSet, DL.ap_sIf, DL.ap_sAsg, DL.parK_ok, DL.ap_sPar, DL.ap_sRaise, DL.ap_sFld, DL.ap_gN, DL.ap_gTp, DL.ap_gsNil, DL.gsK_some, DL.ap_gsCons, DL.gUl_lst, DL.ap_gUl, DL.ap_gIx, DL.ixK_cell, DL.ixK2_int, DL.putO_lst, DL.putO_0, DL.putO_1, DL.putO_2, DL.asL_lst, DL.asR_lst, DL.asR_ro, DL.asQ_lst, DL.asQ_ro, DL.asQ_tup, DL.asQ_ktup, DL.lstO_lst, DL.asL_cell, DL.asR_cell, DL.asQ_cell, DL.isL_def, DL.add_int, DL.oI_int, DL.oIc_int, DL.oB_int, DL.is_non, DL.is_int, DL.is_str, DL.is_lst, DL.is_tup, DL.is_cell, DL.isn_non, DL.isn_int, DL.isn_str, DL.isn_lst, DL.isn_tup, DL.isn_cell, DL.mkT_ok, DL.mkL_ok, DL.mkC_ok, DL.add_lst, DL.addK_ok, DL.addC_ap, DL.lenO_some, DL.len_cell, DL.len_lst, DL.len_tup, DL.len_ktup, DL.len_ro, DL.bLen_of, DL.bInt_int, DL.bInt_bl, DL.bAbs_int, DL.bMax_int, DL.bMin_int, DL.lstK_some, DL.lstCK_some, DL.tupK_some, DL.ktupK_some, DL.bList_of, DL.bListC_of, DL.bTuple_tup, DL.tuple_cell, DL.tuple_lst, DL.tuple_ro, DL.tuple_ktup, DL.bTuple_of, DL.bTupleK_of, DL.mApp_ap, DL.appO_lst, DL.mPopAt_ap, DL.mulL_2, DL.someR_ok, DL.ixO_some, DL.ix_cell, DL.ix_lst, DL.ix_tup, DL.ix_ktup, DL.ix_ro, DL.ix_of, DL.sl_tup, DL.sl_lst, DL.slK_some, DL.sl_cell, DL.cut_take, DL.cut_drop, DL.take_map, DL.drop_map, DL.atI_map, DL.atI_0, DL.atI_1, DL.atI_2, DL.atI_3, DL.wipe_nil, DL.wipe_cons, DL.noexc_k, DL.noexc_c, DL.ap_turn, DL.trnK_some, DL.ap_lcD, DL.ap_eLc, DL.ap_eLcC, DL.lcK_typed, DL.lcT_ok, DL.lcT_cond, DL.always_is, DL.ite_ok, DL.ite_int, DL.ite_bl, DL.fm_int, DL.fm_bl, DL.fm_str, DL.fm_if, DL.ap_iSeq, DL.it_lst, DL.it_ro, DL.it_tup, DL.it_ktup, DL.itO_lst, DL.it_cell, DL.any_lst, DL.all_lst, DL.any_map', DL.all_map', DL.push_len, DL.push_push, DL.get_0, DL.get_1, DL.get_2, DL.set_0, DL.set_1, DL.set_2, DL.set_len, DL.set_set, DL.get_app, DL.set_app, DL.get_aft, DL.get_aft0, DL.set_aft, DL.set_aft0, DL.str_eq, DL.int_eq, DL.ints_eq, DL.intsT_eq, DL.id_is, DL.eq_nn, DL.eq_nilI, DL.eq_nilN, DL.sum_lst, DL.set_ints, DL.app_ints, DL.ite_true', DL.ite_false', DL.pickO_some, DL.pick_nil, DL.pick_cons, DL.fzR_py, DL.fz_non, DL.fz_nonT, DL.fz_int, DL.fz_intT, DL.fz_bl, DL.fz_blT, DL.fz_ints, DL.fz_intsT, DL.fz_tints, DL.fz_tintsT, DL.nxt_nx, DL.nxt_ct, DL.nxt_brk, DL.nxt_ret, DL.nxt_exc, DL.ap_iRg1, DL.ap_iRg2, DL.rgK_ok, DL.rgK2_ok, DL.ap_iEn, DL.enK_lst, DL.enK_ro, DL.ap_iZp, DL.zpK_tup, DL.zpK_lst, DL.turn_eI, DL.turn_eP, DL.len_str, DL.it_str, DL.in_ch, DL.app_map, DL.it_eR, DL.ix_eR0, DL.ix_eR1, DL.ix_eR2, DL.eq_nm, DL.eq_eR, DL.is_eR, DL.isn_eR, DL.eq_nilR, DL.rl_len, DL.atI_ix, DL.it_dI, DL.map_dI, DL.fm_eR, DL.fm_nm, DL.tup3_eR, DL.app_rs, DL.map_id'', DL.fm_dI, DL.tup_eR, DL.eta_nm, DL.eta_eR, DL.eta_dI, DL.bk_kinds, DL.bk_rules, DL.bk_of, reduceDIte, Nat.reduceEqDiff, dreduceDIte, Int.reduceNegSucc, Nat.reduceOr, Nat.reducePow, Nat.reduceGT, Nat.reduceBneDiff, Nat.reduceSubDiff, Nat.reduceMod, Int.reduceGE, Int.reduceToNat, Int.reduceEq, dreduceIte, Int.reduceGT, Int.reducePow, Nat.reduceBNe, Int.reduceDiv, Int.reduceMul, reduceCtorEq, Int.reduceBEq, Nat.reduceBeqDiff, String.reduceNe, String.reduceBNe, Int.reduceNe, String.reduceBEq, Int.reduceSub, Int.reduceAbs, Int.reduceLT, Int.reduceNeg, Nat.reduceDiv, Int.reduceBNe, Int.reduceDvd, Int.reduceAdd, Nat.reduceBEq, Nat.reduceSucc, String.reduceEq, Int.reduceLE, Int.reduceMod, reduceIte, Int.reduceFDiv, Int.reduceFMod, startD, List.map_cons, List.map_nil, List.length_cons, List.length_nil, List.replicate_succ, List.replicate_zero, Nat.reduceAdd, Nat.reduceSub, Nat.reduceMul, List.cons_append, List.nil_append, List.getElem?_cons_zero, List.getElem?_cons_succ, List.set_cons_zero, List.set_cons_succ, ↓reduceIte, decide_eq_true_eq, Bool.false_eq_true, Int.natCast_inj, Int.toNat_natCast, Option.isSome_some, Option.isSome_none, Option.isNone_none, Option.isNone_some, Bool.or_eq_true, Bool.and_eq_true, Bool.not_eq_true', decide_eq_false_iff_not, Bool.not_true, Bool.not_false, beq_self_eq_true, Option.map_some, Option.bind_some, true_and, and_true, false_and, and_false, or_true, true_or, or_false, false_or, Nat.reduceLeDiff, Nat.reduceLT, Bool.false_and, Bool.true_and, Bool.and_false, Bool.and_true, Nat.zero_le, List.length_map, List.length_set, List.length_append, List.length_zipIdx, List.length_range, gt_iff_lt, not_true_eq_false, not_false_eq_true, eq_self, Bool.false_xor, Bool.true_xor, Bool.xor_false, List.not_mem_nil, decide_true, decide_false, $[$es:term],*])
theorem book_init_ok {S : Sto} {kd rd : Dv} {j : Nat} {ks : List Nm} {rs : List Ru} (hk : Rl S kd (ks.map eN')) (hr : Rl S rd (rs.map eR)) (hj : S[j]? = some (.ins 0 [])) (l1 : ks.length ≤ 1000) (l2 : rs.length ≤ 1000) (hn : ∀ k ∈ ks, k.1.length ≤ 1000) :
    m_Book_init [.cell j, kd, rd] S = match chkK [] ks with
      | some x => .exc x.1 (eN' x.2) S
      | none => match chkR ks [] rs with
        | some x => .exc x.1 (eR x.2) S
        | none => .ok .non (S.set j (.ins 0 [("kept_kinds", .ktup (ks.map eN')), ("kept_rules", .tup ((rank ks rs).map eR))])) := by
  apply fz_hold
  have jl : j < S.length := (List.getElem?_eq_some_iff.mp hj).1
  exists b_Book_init, check_kinds_ok hk.rv l1 hn
  cases e1 : chkK [] ks with
  | some x =>
    exists raiseO
    exact fzx_en iNm x.1 x.2
  | none =>
    exists raiseO
    refine for_hold (enc := eR) (xs := rs) (chk := ckD (rs.map eR) rd) (S1 := S ++ [.lst []]) (fun r ρ S' => ∃ kn x, S' = S ++ [.lst (kn.map eR)] ∧ ρ = [some (.cell j), some kd, some rd, some (.cell S.length), x, none, none, none, none] ∧ chkR ks kn r = chkR ks [] rs ∧ kn.length + r.length = rs.length) ?_ ?_ ?_ ?_ ?_
    · exists (hr.rv.app _).it
    · exists hr.rv.ckT
    · exact ⟨[], none, rfl, rfl, rfl, by simp⟩
    · rintro x r ρ S' hx ⟨kn, y, rfl, rfl, e, e2⟩
      rw [List.length_cons] at e2
      have q := en_notin iR (neg := false) (k := S.length) (l := kn) (a := x) (S := S ++ [.lst (kn.map eR)]) get_0
      by_cases h1 : badR ks x = true
      · exists check_rule_ok (hk.rv.app _), h1
        rw [← e, chkR, if_pos h1]
        exact fzx_enT iR 9 x
      · by_cases h2 : x ∈ kn
        · exists check_rule_ok (hk.rv.app _), h1, q, h2
          rw [← e, chkR, if_neg h1, if_pos h2]
          exact fzx_enT iR 4 x
        · exists check_rule_ok (hk.rv.app _), h1, q, h2, hr.rv.ckT
          exact ⟨kn ++ [x], some (eR x), rfl, rfl, by rw [← e, chkR, if_neg h1, if_neg h2], by rw [List.length_append, List.length_singleton]; omega⟩
    · rintro ρ S' ⟨kn, y, rfl, rfl, e, e2⟩
      have e3 : chkR ks [] rs = none := by rw [← e]; rfl
      have hin : ∀ r ∈ rs, ∀ n ∈ rl r, n ∈ ks := fun r h => badR_in (chkR_none e3 r h)
      have hk2 := (hk.setI hj (.ins 0 [("kept_kinds", .ktup (ks.map eN'))])).app [.lst (kn.map eR)]
      have hr2 := (hr.setI hj (.ins 0 [("kept_kinds", .ktup (ks.map eN'))])).app [.lst (kn.map eR)]
      have g1 := fld_cell (f := "kept_kinds") (y := .ktup (ks.map eN')) (ρ := [some (.cell j), some kd, some rd, some (.cell S.length), y, none, none, none, none]) (S := S ++ [.lst (kn.map eR)]) (k := j) (c := 0) (fs := []) (by rw [get_old jl]; exact hj) (by decide)
      exists (hk.app _).r, g1, putD, set_old jl
      exists hr2.rv.it, hr2.rv.ck, hk2.r, hk2.index, hk2.rv.ix, sorted_dI, rank_len
      refine hold_cond (fun r h => hin r ((rank_perm ks rs).mem_iff.mp h)) ?_
      have pe : putD "kept_rules" (.tup ((rank ks rs).map eR)) [("kept_kinds", .ktup (ks.map eN'))] = ([("kept_kinds", .ktup (ks.map eN')), ("kept_rules", .tup ((rank ks rs).map eR))] : List (Str × Dv)) := if_neg (by decide)
      rw [fld_cell (c := 0) (fs := [("kept_kinds", .ktup (ks.map eN'))]) (by rw [get_old (by rw [set_len]; exact jl), get_set jl]) (by show 1 < 1000; decide), e3, pe, set_old (by rw [set_len]; exact jl), set_set]
      exists id_is
      exact fz_nonST low_bk
/-- Book(kinds, rules) -/
theorem frz_bk {S : Sto} {n k : Nat} {ks : List Nm} {R : List Ru} : frz S n (k + 2) (bk ks R) = bk ks R := by
  show Dv.ins 0 [("kept_kinds", .ktup ((ks.map eN').map (frz S n k))), ("kept_rules", .tup ((R.map eR).map (frz S n k)))] = _
  rw [frzs_py k (pyPs_en (f := eN') ks), frzs_py k (pyPs_en (f := eR) R)]
  rfl
theorem low_bkD {n : Nat} {ks : List Nm} {R : List Ru} : lowD n (bk ks R) = true := by
  unfold bk
  rw [lowD]
  exact low_bk
theorem book_ok {S : Sto} {kd rd : Dv} {ks : List Nm} {rs : List Ru} (hk : Rl S kd (ks.map eN')) (hr : Rl S rd (rs.map eR)) (l1 : ks.length ≤ 1000) (l2 : rs.length ≤ 1000) (hn : ∀ k ∈ ks, k.1.length ≤ 1000) : m_Book [kd, rd] S = bookO ks rs (bk ks (rank ks rs)) S := by
  unfold m_Book fz makeD
  rw [book_init_ok (hk.app [.ins 0 []]) (hr.app [.ins 0 []]) get_0 l1 l2 hn]
  unfold bookO
  cases e1 : chkK [] ks with
  | some x => exact fzx_enT iNm x.1 x.2
  | none =>
    cases e2 : chkR ks [] rs with
    | some x => exact fzx_enT iR x.1 x.2
    | none =>
      dsimp only
      rw [Re.bind_ok, set_0]
      refine fzR_app ?_ low_bkD
      show (if S.length ≤ S.length then (match (S ++ [Ob.ins 0 _])[S.length]? with | some (.lst l) => _ | some (.ins c fs) => _ | some (.dic l) => _ | _ => _) else _) = _
      rw [if_pos (Nat.le_refl _), get_0]
      show Dv.ins 0 [("kept_kinds", .ktup ((ks.map eN').map (frz _ _ 6))), ("kept_rules", .tup (((rank ks rs).map eR).map (frz _ _ 6)))] = _
      rw [frzs_py 6 (pyPs_en (f := eN') ks), frzs_py 6 (pyPs_en (f := eR) (rank ks rs))]
      rfl
end DL

namespace DL
open PySem PySem.Spec PyProof.Rows L2
section
variable {S : Sto} {ks ks' : List Nm} {R R' : List Ru}
theorem fz_nms {l : List Nm} : fzR S (.ok (.lst (l.map eN')) S) = .ok (.lst (l.map eN')) S := fz_en (iL eN') l
theorem fz_rs {l : List Ru} : fzR S (.ok (.lst (l.map eR)) S) = .ok (.lst (l.map eR)) S := fz_en (iL eR) l
theorem fz_bk : fzR S (.ok (bk ks R) S) = .ok (bk ks R) S := fzR_same low_bkD frz_bk
local macro_rules | `(tactic| exists $es,*) => `(tactic| simp (disch := first | omega | assumption | (simp only [*, Option.isSome_some, List.length_map, List.length_set]; done) | (simp only [*, Option.isSome_some, List.length_map, List.length_set]; omega)) only [DL.fmi_int, DL.fmi_nm, DL.fmi_eR, DL.hold_seq, DL.hold_nx, DL.hold_nx0, DL.hold_ret, DL.hold_brk, DL.hold_ct, DL.hold_exc, DL.toR_nx, DL.toR_ret, DL.toR_exc, DL.bnd_ok, DL.bnd_exc, DL.toS_ok, DL.toS_exc, DL.opt_some, DL.condR_true, DL.condR_of, DL.condS_true, DL.condS_of, DL.condR_bind, DL.condR_toS, DL.condR_condR, DL.getV_some, DL.ap_eV, DL.ap_eC, DL.ap_e1, DL.ap_e2, DL.ap_aNil, DL.ap_aCons, DL.ap_eN, DL.ap_eCall, DL.ap_eCallK, DL.ap_eMth, DL.ap_eMth0, DL.ap_eMthK, DL.ap_eM, DL.asB_bl, DL.ap_tV, DL.ap_tAnd, DL.ap_tOr, DL.ap_tNot, DL.ap_tYes, DL.ap_eIf, DL.andK_bl, DL.orK_bl, DL.ap_eAnd, DL.ap_eOr, DL.ap_uNot, DL.ap_uNeg, DL.ap_xNone, DL.asO_int, DL.ap_xSome, DL.ap_eSl, DL.chK_int, DL.ap_eCh, DL.ap_sNil, DL.ap_sBrk, DL.ap_sCt, DL.ap_sExpr, DL.ap_sRet, DL.ap_sSet, DL.ap_sIf, DL.ap_sAsg, DL.parK_ok, DL.ap_sPar, DL.ap_sRaise, DL.ap_sFld, DL.ap_gN, DL.ap_gTp, DL.ap_gsNil, DL.gsK_some, DL.ap_gsCons, DL.gUl_lst, DL.ap_gUl, DL.ap_gIx, DL.ixK_cell, DL.ixK2_int, DL.putO_lst, DL.putO_0, DL.putO_1, DL.putO_2, DL.asL_lst, DL.asR_lst, DL.asR_ro, DL.asQ_lst, DL.asQ_ro, DL.asQ_tup, DL.asQ_ktup, DL.lstO_lst, DL.asL_cell, DL.asR_cell, DL.asQ_cell, DL.isL_def, DL.add_int, DL.oI_int, DL.oIc_int, DL.oB_int, DL.is_non, DL.is_int, DL.is_str, DL.is_lst, DL.is_tup, DL.is_cell, DL.isn_non, DL.isn_int, DL.isn_str, DL.isn_lst, DL.isn_tup, DL.isn_cell, DL.mkT_ok, DL.mkL_ok, DL.mkC_ok, DL.add_lst, DL.addK_ok, DL.addC_ap, DL.lenO_some, DL.len_cell, DL.len_lst, DL.len_tup, DL.len_ktup, DL.len_ro, DL.bLen_of, DL.bInt_int, DL.bInt_bl, DL.bAbs_int, DL.bMax_int, DL.bMin_int, DL.lstK_some, DL.lstCK_some, DL.tupK_some, DL.ktupK_some, DL.bList_of, DL.bListC_of, DL.bTuple_tup, DL.tuple_cell, DL.tuple_lst, DL.tuple_ro, DL.tuple_ktup, DL.bTuple_of, DL.bTupleK_of, DL.mApp_ap, DL.appO_lst, DL.mPopAt_ap, DL.mulL_2, DL.someR_ok, DL.ixO_some, DL.ix_cell, DL.ix_lst, DL.ix_tup, DL.ix_ktup, DL.ix_ro, DL.ix_of, DL.sl_tup, DL.sl_lst, DL.slK_some, DL.sl_cell, DL.cut_take, DL.cut_drop, DL.take_map, DL.drop_map, DL.atI_map, DL.atI_0, DL.atI_1, DL.atI_2, DL.atI_3, DL.wipe_nil, DL.wipe_cons, DL.noexc_k, DL.noexc_c, DL.ap_turn, DL.trnK_some, DL.ap_lcD, DL.ap_eLc, DL.ap_eLcC, DL.lcK_typed, DL.lcT_ok, DL.lcT_cond, DL.always_is, DL.ite_ok, DL.ite_int, DL.ite_bl, DL.fm_int, DL.fm_bl, DL.fm_str, DL.fm_if, DL.ap_iSeq, DL.it_lst, DL.it_ro, DL.it_tup, DL.it_ktup, DL.itO_lst, DL.it_cell, DL.any_lst, DL.all_lst, DL.any_map', DL.all_map', DL.push_len, DL.push_push, DL.get_0, DL.get_1, DL.get_2, DL.set_0, DL.set_1, DL.set_2, DL.set_len, DL.set_set, DL.get_app, DL.set_app, DL.get_aft, DL.get_aft0, DL.set_aft, DL.set_aft0, DL.str_eq, DL.int_eq, DL.ints_eq, DL.intsT_eq, DL.id_is, DL.eq_nn, DL.eq_nilI, DL.eq_nilN, DL.sum_lst, DL.set_ints, DL.app_ints, DL.ite_true', DL.ite_false', DL.pickO_some, DL.pick_nil, DL.pick_cons, DL.fzR_py, DL.fz_non, DL.fz_nonT, DL.fz_int, DL.fz_intT, DL.fz_bl, DL.fz_blT, DL.fz_ints, DL.fz_intsT, DL.fz_tints, DL.fz_tintsT, DL.nxt_nx, DL.nxt_ct, DL.nxt_brk, DL.nxt_ret, DL.nxt_exc, DL.ap_iRg1, DL.ap_iRg2, DL.rgK_ok, DL.rgK2_ok, DL.ap_iEn, DL.enK_lst, DL.enK_ro, DL.ap_iZp, DL.zpK_tup, DL.zpK_lst, DL.turn_eI, DL.turn_eP, DL.len_str, DL.it_str, DL.in_ch, DL.app_map, DL.it_eR, DL.ix_eR0, DL.ix_eR1, DL.ix_eR2, DL.eq_nm, DL.eq_eR, DL.is_eR, DL.isn_eR, DL.eq_nilR, DL.rl_len, DL.atI_ix, DL.it_dI, DL.map_dI, DL.fm_eR, DL.fm_nm, DL.tup3_eR, DL.app_rs, DL.map_id'', DL.fm_dI, DL.tup_eR, DL.eta_nm, DL.eta_eR, DL.eta_dI, DL.bk_kinds, DL.bk_rules, DL.bk_of, DL.fz_nms, DL.fz_rs, DL.fz_bk, reduceDIte, Nat.reduceEqDiff, dreduceDIte, Int.reduceNegSucc, Nat.reduceOr, Nat.reducePow, Nat.reduceGT, Nat.reduceBneDiff, Nat.reduceSubDiff, Nat.reduceMod, Int.reduceGE, Int.reduceToNat, Int.reduceEq, dreduceIte, Int.reduceGT, Int.reducePow, Nat.reduceBNe, Int.reduceDiv, Int.reduceMul, reduceCtorEq, Int.reduceBEq, Nat.reduceBeqDiff, String.reduceNe, String.reduceBNe, Int.reduceNe, String.reduceBEq, Int.reduceSub, Int.reduceAbs, Int.reduceLT, Int.reduceNeg, Nat.reduceDiv, Int.reduceBNe, Int.reduceDvd, Int.reduceAdd, Nat.reduceBEq, Nat.reduceSucc, String.reduceEq, Int.reduceLE, Int.reduceMod, reduceIte, Int.reduceFDiv, Int.reduceFMod, startD, List.map_cons, List.map_nil, List.length_cons, List.length_nil, List.replicate_succ, List.replicate_zero, Nat.reduceAdd, Nat.reduceSub, Nat.reduceMul, List.cons_append, List.nil_append, List.getElem?_cons_zero, List.getElem?_cons_succ, List.set_cons_zero, List.set_cons_succ, ↓reduceIte, decide_eq_true_eq, Bool.false_eq_true, Int.natCast_inj, Int.toNat_natCast, Option.isSome_some, Option.isSome_none, Option.isNone_none, Option.isNone_some, Bool.or_eq_true, Bool.and_eq_true, Bool.not_eq_true', decide_eq_false_iff_not, Bool.not_true, Bool.not_false, beq_self_eq_true, Option.map_some, Option.bind_some, true_and, and_true, false_and, and_false, or_true, true_or, or_false, false_or, Nat.reduceLeDiff, Nat.reduceLT, Bool.false_and, Bool.true_and, Bool.and_false, Bool.and_true, Nat.zero_le, List.length_map, List.length_set, List.length_append, List.length_zipIdx, List.length_range, gt_iff_lt, not_true_eq_false, not_false_eq_true, eq_self, Bool.false_xor, Bool.true_xor, Bool.xor_false, List.not_mem_nil, decide_true, decide_false, $[$es:term],*])
theorem kinds_ok : m_Book_kinds [bk ks R] S = .ok (.lst (ks.map eN')) S := by
  apply fz_hold
  exists b_Book_kinds
local macro_rules | `(tactic| exists $es,*) => `(tactic| simp (disch := first | omega | assumption | (simp only [*, Option.isSome_some, List.length_map, List.length_set]; done) | (simp only [*, Option.isSome_some, List.length_map, List.length_set]; omega)) only [DL.fmi_int, DL.fmi_nm, DL.fmi_eR, DL.hold_seq, DL.hold_nx, DL.hold_nx0, DL.hold_ret, DL.hold_brk, DL.hold_ct, DL.hold_exc, DL.toR_nx, DL.toR_ret, DL.toR_exc, DL.bnd_ok, DL.bnd_exc, DL.toS_ok, DL.toS_exc, DL.opt_some, DL.condR_true, DL.condR_of, DL.condS_true, DL.condS_of, DL.condR_bind, DL.condR_toS, DL.condR_condR, DL.getV_some, DL.ap_eV, DL.ap_eC, DL.ap_e1, DL.ap_e2, DL.ap_aNil, DL.ap_aCons, DL.ap_eN, DL.ap_eCall, DL.ap_eCallK, DL.ap_eMth, DL.ap_eMth0, DL.ap_eMthK, DL.ap_eM, DL.asB_bl, DL.ap_tV, DL.ap_tAnd, DL.ap_tOr, DL.ap_tNot, DL.ap_tYes, DL.ap_eIf, DL.andK_bl, DL.orK_bl, DL.ap_eAnd, DL.ap_eOr, DL.ap_uNot, DL.ap_uNeg, DL.ap_xNone, DL.asO_int, DL.ap_xSome, DL.ap_eSl, DL.chK_int, DL.ap_eCh, DL.ap_sNil, DL.ap_sBrk, DL.ap_sCt, DL.ap_sExpr, DL.ap_sRet, DL.ap_sSet, DL.ap_sIf, DL.ap_sAsg, DL.parK_ok, DL.ap_sPar, DL.ap_sRaise, DL.ap_sFld, DL.ap_gN, DL.ap_gTp, DL.ap_gsNil, DL.gsK_some, DL.ap_gsCons, DL.gUl_lst, DL.ap_gUl, DL.ap_gIx, DL.ixK_cell, DL.ixK2_int, DL.putO_lst, DL.putO_0, DL.putO_1, DL.putO_2, DL.asL_lst, DL.asR_lst, DL.asR_ro, DL.asQ_lst, DL.asQ_ro, DL.asQ_tup, DL.asQ_ktup, DL.lstO_lst, DL.asL_cell, DL.asR_cell, DL.asQ_cell, DL.isL_def, DL.add_int, DL.oI_int, DL.oIc_int, DL.oB_int, DL.is_non, DL.is_int, DL.is_str, DL.is_lst, DL.is_tup, DL.is_cell, DL.isn_non, DL.isn_int, DL.isn_str, DL.isn_lst, DL.isn_tup, DL.isn_cell, DL.mkT_ok, DL.mkL_ok, DL.mkC_ok, DL.add_lst, DL.addK_ok, DL.addC_ap, DL.lenO_some, DL.len_cell, DL.len_lst, DL.len_tup, DL.len_ktup, DL.len_ro, DL.bLen_of, DL.bInt_int, DL.bInt_bl, DL.bAbs_int, DL.bMax_int, DL.bMin_int, DL.lstK_some, DL.lstCK_some, DL.tupK_some, DL.ktupK_some, DL.bList_of, DL.bListC_of, DL.bTuple_tup, DL.tuple_cell, DL.tuple_lst, DL.tuple_ro, DL.tuple_ktup, DL.bTuple_of, DL.bTupleK_of, DL.mApp_ap, DL.appO_lst, DL.mPopAt_ap, DL.mulL_2, DL.someR_ok, DL.ixO_some, DL.ix_cell, DL.ix_lst, DL.ix_tup, DL.ix_ktup, DL.ix_ro, DL.ix_of, DL.sl_tup, DL.sl_lst, DL.slK_some, DL.sl_cell, DL.cut_take, DL.cut_drop, DL.take_map, DL.drop_map, DL.atI_map, DL.atI_0, DL.atI_1, DL.atI_2, DL.atI_3, DL.wipe_nil, DL.wipe_cons, DL.noexc_k, DL.noexc_c, DL.ap_turn, DL.trnK_some, DL.ap_lcD, DL.ap_eLc, DL.ap_eLcC, DL.lcK_typed, DL.lcT_ok, DL.lcT_cond, DL.always_is, DL.ite_ok, DL.ite_int, DL.ite_bl, DL.fm_int, DL.fm_bl, DL.fm_str, DL.fm_if, DL.ap_iSeq, DL.it_lst, DL.it_ro, DL.it_tup, DL.it_ktup, DL.itO_lst, DL.it_cell, DL.any_lst, DL.all_lst, DL.any_map', DL.all_map', DL.push_len, DL.push_push, DL.get_0, DL.get_1, DL.get_2, DL.set_0, DL.set_1, DL.set_2, DL.set_len, DL.set_set, DL.get_app, DL.set_app, DL.get_aft, DL.get_aft0, DL.set_aft, DL.set_aft0, DL.str_eq, DL.int_eq, DL.ints_eq, DL.intsT_eq, DL.id_is, DL.eq_nn, DL.eq_nilI, DL.eq_nilN, DL.sum_lst, DL.set_ints, DL.app_ints, DL.ite_true', DL.ite_false', DL.pickO_some, DL.pick_nil, DL.pick_cons, DL.fzR_py, DL.fz_non, DL.fz_nonT, DL.fz_int, DL.fz_intT, DL.fz_bl, DL.fz_blT, DL.fz_ints, DL.fz_intsT, DL.fz_tints, DL.fz_tintsT, DL.nxt_nx, DL.nxt_ct, DL.nxt_brk, DL.nxt_ret, DL.nxt_exc, DL.ap_iRg1, DL.ap_iRg2, DL.rgK_ok, DL.rgK2_ok, DL.ap_iEn, DL.enK_lst, DL.enK_ro, DL.ap_iZp, DL.zpK_tup, DL.zpK_lst, DL.turn_eI, DL.turn_eP, DL.len_str, DL.it_str, DL.in_ch, DL.app_map, DL.it_eR, DL.ix_eR0, DL.ix_eR1, DL.ix_eR2, DL.eq_nm, DL.eq_eR, DL.is_eR, DL.isn_eR, DL.eq_nilR, DL.rl_len, DL.atI_ix, DL.it_dI, DL.map_dI, DL.fm_eR, DL.fm_nm, DL.tup3_eR, DL.app_rs, DL.map_id'', DL.fm_dI, DL.tup_eR, DL.eta_nm, DL.eta_eR, DL.eta_dI, DL.bk_kinds, DL.bk_rules, DL.bk_of, DL.fz_nms, DL.fz_rs, DL.fz_bk, DL.kinds_ok, reduceDIte, Nat.reduceEqDiff, dreduceDIte, Int.reduceNegSucc, Nat.reduceOr, Nat.reducePow, Nat.reduceGT, Nat.reduceBneDiff, Nat.reduceSubDiff, Nat.reduceMod, Int.reduceGE, Int.reduceToNat, Int.reduceEq, dreduceIte, Int.reduceGT, Int.reducePow, Nat.reduceBNe, Int.reduceDiv, Int.reduceMul, reduceCtorEq, Int.reduceBEq, Nat.reduceBeqDiff, String.reduceNe, String.reduceBNe, Int.reduceNe, String.reduceBEq, Int.reduceSub, Int.reduceAbs, Int.reduceLT, Int.reduceNeg, Nat.reduceDiv, Int.reduceBNe, Int.reduceDvd, Int.reduceAdd, Nat.reduceBEq, Nat.reduceSucc, String.reduceEq, Int.reduceLE, Int.reduceMod, reduceIte, Int.reduceFDiv, Int.reduceFMod, startD, List.map_cons, List.map_nil, List.length_cons, List.length_nil, List.replicate_succ, List.replicate_zero, Nat.reduceAdd, Nat.reduceSub, Nat.reduceMul, List.cons_append, List.nil_append, List.getElem?_cons_zero, List.getElem?_cons_succ, List.set_cons_zero, List.set_cons_succ, ↓reduceIte, decide_eq_true_eq, Bool.false_eq_true, Int.natCast_inj, Int.toNat_natCast, Option.isSome_some, Option.isSome_none, Option.isNone_none, Option.isNone_some, Bool.or_eq_true, Bool.and_eq_true, Bool.not_eq_true', decide_eq_false_iff_not, Bool.not_true, Bool.not_false, beq_self_eq_true, Option.map_some, Option.bind_some, true_and, and_true, false_and, and_false, or_true, true_or, or_false, false_or, Nat.reduceLeDiff, Nat.reduceLT, Bool.false_and, Bool.true_and, Bool.and_false, Bool.and_true, Nat.zero_le, List.length_map, List.length_set, List.length_append, List.length_zipIdx, List.length_range, gt_iff_lt, not_true_eq_false, not_false_eq_true, eq_self, Bool.false_xor, Bool.true_xor, Bool.xor_false, List.not_mem_nil, decide_true, decide_false, $[$es:term],*])
theorem rules_ok : m_Book_rules [bk ks R] S = .ok (.lst (R.map eR)) S := by
  apply fz_hold
  exists b_Book_rules
local macro_rules | `(tactic| exists $es,*) => `(tactic| simp (disch := first | omega | assumption | (simp only [*, Option.isSome_some, List.length_map, List.length_set]; done) | (simp only [*, Option.isSome_some, List.length_map, List.length_set]; omega)) only [DL.fmi_int, DL.fmi_nm, DL.fmi_eR, DL.hold_seq, DL.hold_nx, DL.hold_nx0, DL.hold_ret, DL.hold_brk, DL.hold_ct, DL.hold_exc, DL.toR_nx, DL.toR_ret, DL.toR_exc, DL.bnd_ok, DL.bnd_exc, DL.toS_ok, DL.toS_exc, DL.opt_some, DL.condR_true, DL.condR_of, DL.condS_true, DL.condS_of, DL.condR_bind, DL.condR_toS, DL.condR_condR, DL.getV_some, DL.ap_eV, DL.ap_eC, DL.ap_e1, DL.ap_e2, DL.ap_aNil, DL.ap_aCons, DL.ap_eN, DL.ap_eCall, DL.ap_eCallK, DL.ap_eMth, DL.ap_eMth0, DL.ap_eMthK, DL.ap_eM, DL.asB_bl, DL.ap_tV, DL.ap_tAnd, DL.ap_tOr, DL.ap_tNot, DL.ap_tYes, DL.ap_eIf, DL.andK_bl, DL.orK_bl, DL.ap_eAnd, DL.ap_eOr, DL.ap_uNot, DL.ap_uNeg, DL.ap_xNone, DL.asO_int, DL.ap_xSome, DL.ap_eSl, DL.chK_int, DL.ap_eCh, DL.ap_sNil, DL.ap_sBrk, DL.ap_sCt, DL.ap_sExpr, DL.ap_sRet, DL.ap_sSet, DL.ap_sIf, DL.ap_sAsg, DL.parK_ok, DL.ap_sPar, DL.ap_sRaise, DL.ap_sFld, DL.ap_gN, DL.ap_gTp, DL.ap_gsNil, DL.gsK_some, DL.ap_gsCons, DL.gUl_lst, DL.ap_gUl, DL.ap_gIx, DL.ixK_cell, DL.ixK2_int, DL.putO_lst, DL.putO_0, DL.putO_1, DL.putO_2, DL.asL_lst, DL.asR_lst, DL.asR_ro, DL.asQ_lst, DL.asQ_ro, DL.asQ_tup, DL.asQ_ktup, DL.lstO_lst, DL.asL_cell, DL.asR_cell, DL.asQ_cell, DL.isL_def, DL.add_int, DL.oI_int, DL.oIc_int, DL.oB_int, DL.is_non, DL.is_int, DL.is_str, DL.is_lst, DL.is_tup, DL.is_cell, DL.isn_non, DL.isn_int, DL.isn_str, DL.isn_lst, DL.isn_tup, DL.isn_cell, DL.mkT_ok, DL.mkL_ok, DL.mkC_ok, DL.add_lst, DL.addK_ok, DL.addC_ap, DL.lenO_some, DL.len_cell, DL.len_lst, DL.len_tup, DL.len_ktup, DL.len_ro, DL.bLen_of, DL.bInt_int, DL.bInt_bl, DL.bAbs_int, DL.bMax_int, DL.bMin_int, DL.lstK_some, DL.lstCK_some, DL.tupK_some, DL.ktupK_some, DL.bList_of, DL.bListC_of, DL.bTuple_tup, DL.tuple_cell, DL.tuple_lst, DL.tuple_ro, DL.tuple_ktup, DL.bTuple_of, DL.bTupleK_of, DL.mApp_ap, DL.appO_lst, DL.mPopAt_ap, DL.mulL_2, DL.someR_ok, DL.ixO_some, DL.ix_cell, DL.ix_lst, DL.ix_tup, DL.ix_ktup, DL.ix_ro, DL.ix_of, DL.sl_tup, DL.sl_lst, DL.slK_some, DL.sl_cell, DL.cut_take, DL.cut_drop, DL.take_map, DL.drop_map, DL.atI_map, DL.atI_0, DL.atI_1, DL.atI_2, DL.atI_3, DL.wipe_nil, DL.wipe_cons, DL.noexc_k, DL.noexc_c, DL.ap_turn, DL.trnK_some, DL.ap_lcD, DL.ap_eLc, DL.ap_eLcC, DL.lcK_typed, DL.lcT_ok, DL.lcT_cond, DL.always_is, DL.ite_ok, DL.ite_int, DL.ite_bl, DL.fm_int, DL.fm_bl, DL.fm_str, DL.fm_if, DL.ap_iSeq, DL.it_lst, DL.it_ro, DL.it_tup, DL.it_ktup, DL.itO_lst, DL.it_cell, DL.any_lst, DL.all_lst, DL.any_map', DL.all_map', DL.push_len, DL.push_push, DL.get_0, DL.get_1, DL.get_2, DL.set_0, DL.set_1, DL.set_2, DL.set_len, DL.set_set, DL.get_app, DL.set_app, DL.get_aft, DL.get_aft0, DL.set_aft, DL.set_aft0, DL.str_eq, DL.int_eq, DL.ints_eq, DL.intsT_eq, DL.id_is, DL.eq_nn, DL.eq_nilI, DL.eq_nilN, DL.sum_lst, DL.set_ints, DL.app_ints, DL.ite_true', DL.ite_false', DL.pickO_some, DL.pick_nil, DL.pick_cons, DL.fzR_py, DL.fz_non, DL.fz_nonT, DL.fz_int, DL.fz_intT, DL.fz_bl, DL.fz_blT, DL.fz_ints, DL.fz_intsT, DL.fz_tints, DL.fz_tintsT, DL.nxt_nx, DL.nxt_ct, DL.nxt_brk, DL.nxt_ret, DL.nxt_exc, DL.ap_iRg1, DL.ap_iRg2, DL.rgK_ok, DL.rgK2_ok, DL.ap_iEn, DL.enK_lst, DL.enK_ro, DL.ap_iZp, DL.zpK_tup, DL.zpK_lst, DL.turn_eI, DL.turn_eP, DL.len_str, DL.it_str, DL.in_ch, DL.app_map, DL.it_eR, DL.ix_eR0, DL.ix_eR1, DL.ix_eR2, DL.eq_nm, DL.eq_eR, DL.is_eR, DL.isn_eR, DL.eq_nilR, DL.rl_len, DL.atI_ix, DL.it_dI, DL.map_dI, DL.fm_eR, DL.fm_nm, DL.tup3_eR, DL.app_rs, DL.map_id'', DL.fm_dI, DL.tup_eR, DL.eta_nm, DL.eta_eR, DL.eta_dI, DL.bk_kinds, DL.bk_rules, DL.bk_of, DL.fz_nms, DL.fz_rs, DL.fz_bk, DL.kinds_ok, DL.rules_ok, reduceDIte, Nat.reduceEqDiff, dreduceDIte, Int.reduceNegSucc, Nat.reduceOr, Nat.reducePow, Nat.reduceGT, Nat.reduceBneDiff, Nat.reduceSubDiff, Nat.reduceMod, Int.reduceGE, Int.reduceToNat, Int.reduceEq, dreduceIte, Int.reduceGT, Int.reducePow, Nat.reduceBNe, Int.reduceDiv, Int.reduceMul, reduceCtorEq, Int.reduceBEq, Nat.reduceBeqDiff, String.reduceNe, String.reduceBNe, Int.reduceNe, String.reduceBEq, Int.reduceSub, Int.reduceAbs, Int.reduceLT, Int.reduceNeg, Nat.reduceDiv, Int.reduceBNe, Int.reduceDvd, Int.reduceAdd, Nat.reduceBEq, Nat.reduceSucc, String.reduceEq, Int.reduceLE, Int.reduceMod, reduceIte, Int.reduceFDiv, Int.reduceFMod, startD, List.map_cons, List.map_nil, List.length_cons, List.length_nil, List.replicate_succ, List.replicate_zero, Nat.reduceAdd, Nat.reduceSub, Nat.reduceMul, List.cons_append, List.nil_append, List.getElem?_cons_zero, List.getElem?_cons_succ, List.set_cons_zero, List.set_cons_succ, ↓reduceIte, decide_eq_true_eq, Bool.false_eq_true, Int.natCast_inj, Int.toNat_natCast, Option.isSome_some, Option.isSome_none, Option.isNone_none, Option.isNone_some, Bool.or_eq_true, Bool.and_eq_true, Bool.not_eq_true', decide_eq_false_iff_not, Bool.not_true, Bool.not_false, beq_self_eq_true, Option.map_some, Option.bind_some, true_and, and_true, false_and, and_false, or_true, true_or, or_false, false_or, Nat.reduceLeDiff, Nat.reduceLT, Bool.false_and, Bool.true_and, Bool.and_false, Bool.and_true, Nat.zero_le, List.length_map, List.length_set, List.length_append, List.length_zipIdx, List.length_range, gt_iff_lt, not_true_eq_false, not_false_eq_true, eq_self, Bool.false_xor, Bool.true_xor, Bool.xor_false, List.not_mem_nil, decide_true, decide_false, $[$es:term],*])
theorem blen_ok : m_Book_len [bk ks R] S = .ok (.int R.length) S := by
  apply fz_hold
  exists b_Book_len
theorem prp_bk {g : Fn} : prpD 0 g (bk ks R) S = noexc (g [bk ks R] S) := id rfl
theorem ins_bk1 : isIns 0 "without" S (bk ks R) = true := id rfl
theorem in_ktup {neg : Bool} {l : List Nm} {a : Nm} : inD neg (eN' a) (.ktup (l.map eN')) S = .ok (.bl (xor neg (decide (a ∈ l)))) S := en_in iNm (by decide) l a (.inr (py_ktup iNm l))
theorem in_rtup {neg : Bool} {l : List Ru} {a : Ru} : inD neg (eR a) (.tup (l.map eR)) S = .ok (.bl (xor neg (decide (a ∈ l)))) S := en_in iR (by decide) l a (.inr (py_tup iR l))
theorem in_rlst {neg : Bool} {l : List Ru} {a : Ru} : inD neg (eR a) (.lst (l.map eR)) S = .ok (.bl (xor neg (decide (a ∈ l)))) S := en_in iR (by decide) l a (.inl (py_lst iR l))
theorem eq_ktup {h : Bool → Bool} {l m : List Nm} : oEqF h (.ktup (l.map eN')) (.ktup (m.map eN')) S = .ok (.bl (h (decide (l = m)))) S := by
  rw [eqD_py (py_ktup iNm l) (py_ktup iNm m) (en_shaped (iT eN') (by decide) l) (en_shaped (iT eN') (by decide) m)]
  congr 3
  rw [Bool.eq_iff_iff, decide_eq_true_eq]
  exact (iT eN').eqv l m
theorem eq_rtup {h : Bool → Bool} {l m : List Ru} : oEqF h (.tup (l.map eR)) (.tup (m.map eR)) S = .ok (.bl (h (decide (l = m)))) S := en_eq (iT eR) (by decide) l m
theorem eq_rlst {h : Bool → Bool} {l m : List Ru} : oEqF h (.lst (l.map eR)) (.lst (m.map eR)) S = .ok (.bl (h (decide (l = m)))) S := en_eq (iL eR) (by decide) l m
theorem eq_nlst {h : Bool → Bool} {l m : List Nm} : oEqF h (.lst (l.map eN')) (.lst (m.map eN')) S = .ok (.bl (h (decide (l = m)))) S := en_eq (iL eN') (by decide) l m
theorem isi_bk : bIsi 0 (isS 0) [bk ks R, .cls 0] S = .ok (.bl true) S := id rfl
local macro_rules | `(tactic| exists $es,*) => `(tactic| simp (disch := first | omega | assumption | (simp only [*, Option.isSome_some, List.length_map, List.length_set]; done) | (simp only [*, Option.isSome_some, List.length_map, List.length_set]; omega)) only [DL.fmi_int, DL.fmi_nm, DL.fmi_eR, DL.hold_seq, DL.hold_nx, DL.hold_nx0, DL.hold_ret, DL.hold_brk, DL.hold_ct, DL.hold_exc, DL.toR_nx, DL.toR_ret, DL.toR_exc, DL.bnd_ok, DL.bnd_exc, DL.toS_ok, DL.toS_exc, DL.opt_some, DL.condR_true, DL.condR_of, DL.condS_true, DL.condS_of, DL.condR_bind, DL.condR_toS, DL.condR_condR, DL.getV_some, DL.ap_eV, DL.ap_eC, DL.ap_e1, DL.ap_e2, DL.ap_aNil, DL.ap_aCons, DL.ap_eN, DL.ap_eCall, DL.ap_eCallK, DL.ap_eMth, DL.ap_eMth0, DL.ap_eMthK, DL.ap_eM, DL.asB_bl, DL.ap_tV, DL.ap_tAnd, DL.ap_tOr, DL.ap_tNot, DL.ap_tYes, DL.ap_eIf, DL.andK_bl, DL.orK_bl, DL.ap_eAnd, DL.ap_eOr, DL.ap_uNot, DL.ap_uNeg, DL.ap_xNone, DL.asO_int, DL.ap_xSome, DL.ap_eSl, DL.chK_int, DL.ap_eCh, DL.ap_sNil, DL.ap_sBrk, DL.ap_sCt, DL.ap_sExpr, DL.ap_sRet, DL.ap_sSet, DL.ap_sIf, DL.ap_sAsg, DL.parK_ok, DL.ap_sPar, DL.ap_sRaise, DL.ap_sFld, DL.ap_gN, DL.ap_gTp, DL.ap_gsNil, DL.gsK_some, DL.ap_gsCons, DL.gUl_lst, DL.ap_gUl, DL.ap_gIx, DL.ixK_cell, DL.ixK2_int, DL.putO_lst, DL.putO_0, DL.putO_1, DL.putO_2, DL.asL_lst, DL.asR_lst, DL.asR_ro, DL.asQ_lst, DL.asQ_ro, DL.asQ_tup, DL.asQ_ktup, DL.lstO_lst, DL.asL_cell, DL.asR_cell, DL.asQ_cell, DL.isL_def, DL.add_int, DL.oI_int, DL.oIc_int, DL.oB_int, DL.is_non, DL.is_int, DL.is_str, DL.is_lst, DL.is_tup, DL.is_cell, DL.isn_non, DL.isn_int, DL.isn_str, DL.isn_lst, DL.isn_tup, DL.isn_cell, DL.mkT_ok, DL.mkL_ok, DL.mkC_ok, DL.add_lst, DL.addK_ok, DL.addC_ap, DL.lenO_some, DL.len_cell, DL.len_lst, DL.len_tup, DL.len_ktup, DL.len_ro, DL.bLen_of, DL.bInt_int, DL.bInt_bl, DL.bAbs_int, DL.bMax_int, DL.bMin_int, DL.lstK_some, DL.lstCK_some, DL.tupK_some, DL.ktupK_some, DL.bList_of, DL.bListC_of, DL.bTuple_tup, DL.tuple_cell, DL.tuple_lst, DL.tuple_ro, DL.tuple_ktup, DL.bTuple_of, DL.bTupleK_of, DL.mApp_ap, DL.appO_lst, DL.mPopAt_ap, DL.mulL_2, DL.someR_ok, DL.ixO_some, DL.ix_cell, DL.ix_lst, DL.ix_tup, DL.ix_ktup, DL.ix_ro, DL.ix_of, DL.sl_tup, DL.sl_lst, DL.slK_some, DL.sl_cell, DL.cut_take, DL.cut_drop, DL.take_map, DL.drop_map, DL.atI_map, DL.atI_0, DL.atI_1, DL.atI_2, DL.atI_3, DL.wipe_nil, DL.wipe_cons, DL.noexc_k, DL.noexc_c, DL.ap_turn, DL.trnK_some, DL.ap_lcD, DL.ap_eLc, DL.ap_eLcC, DL.lcK_typed, DL.lcT_ok, DL.lcT_cond, DL.always_is, DL.ite_ok, DL.ite_int, DL.ite_bl, DL.fm_int, DL.fm_bl, DL.fm_str, DL.fm_if, DL.ap_iSeq, DL.it_lst, DL.it_ro, DL.it_tup, DL.it_ktup, DL.itO_lst, DL.it_cell, DL.any_lst, DL.all_lst, DL.any_map', DL.all_map', DL.push_len, DL.push_push, DL.get_0, DL.get_1, DL.get_2, DL.set_0, DL.set_1, DL.set_2, DL.set_len, DL.set_set, DL.get_app, DL.set_app, DL.get_aft, DL.get_aft0, DL.set_aft, DL.set_aft0, DL.str_eq, DL.int_eq, DL.ints_eq, DL.intsT_eq, DL.id_is, DL.eq_nn, DL.eq_nilI, DL.eq_nilN, DL.sum_lst, DL.set_ints, DL.app_ints, DL.ite_true', DL.ite_false', DL.pickO_some, DL.pick_nil, DL.pick_cons, DL.fzR_py, DL.fz_non, DL.fz_nonT, DL.fz_int, DL.fz_intT, DL.fz_bl, DL.fz_blT, DL.fz_ints, DL.fz_intsT, DL.fz_tints, DL.fz_tintsT, DL.nxt_nx, DL.nxt_ct, DL.nxt_brk, DL.nxt_ret, DL.nxt_exc, DL.ap_iRg1, DL.ap_iRg2, DL.rgK_ok, DL.rgK2_ok, DL.ap_iEn, DL.enK_lst, DL.enK_ro, DL.ap_iZp, DL.zpK_tup, DL.zpK_lst, DL.turn_eI, DL.turn_eP, DL.len_str, DL.it_str, DL.in_ch, DL.app_map, DL.it_eR, DL.ix_eR0, DL.ix_eR1, DL.ix_eR2, DL.eq_nm, DL.eq_eR, DL.is_eR, DL.isn_eR, DL.eq_nilR, DL.rl_len, DL.atI_ix, DL.it_dI, DL.map_dI, DL.fm_eR, DL.fm_nm, DL.tup3_eR, DL.app_rs, DL.map_id'', DL.fm_dI, DL.tup_eR, DL.eta_nm, DL.eta_eR, DL.eta_dI, DL.bk_kinds, DL.bk_rules, DL.bk_of, DL.fz_nms, DL.fz_rs, DL.fz_bk, DL.kinds_ok, DL.rules_ok, DL.blen_ok, DL.prp_bk, DL.ins_bk1, DL.in_ktup, DL.in_rtup, DL.in_rlst, DL.eq_ktup, DL.eq_rtup, DL.eq_rlst, DL.eq_nlst, DL.isi_bk, reduceDIte, Nat.reduceEqDiff, dreduceDIte, Int.reduceNegSucc, Nat.reduceOr, Nat.reducePow, Nat.reduceGT, Nat.reduceBneDiff, Nat.reduceSubDiff, Nat.reduceMod, Int.reduceGE, Int.reduceToNat, Int.reduceEq, dreduceIte, Int.reduceGT, Int.reducePow, Nat.reduceBNe, Int.reduceDiv, Int.reduceMul, reduceCtorEq, Int.reduceBEq, Nat.reduceBeqDiff, String.reduceNe, String.reduceBNe, Int.reduceNe, String.reduceBEq, Int.reduceSub, Int.reduceAbs, Int.reduceLT, Int.reduceNeg, Nat.reduceDiv, Int.reduceBNe, Int.reduceDvd, Int.reduceAdd, Nat.reduceBEq, Nat.reduceSucc, String.reduceEq, Int.reduceLE, Int.reduceMod, reduceIte, Int.reduceFDiv, Int.reduceFMod, startD, List.map_cons, List.map_nil, List.length_cons, List.length_nil, List.replicate_succ, List.replicate_zero, Nat.reduceAdd, Nat.reduceSub, Nat.reduceMul, List.cons_append, List.nil_append, List.getElem?_cons_zero, List.getElem?_cons_succ, List.set_cons_zero, List.set_cons_succ, ↓reduceIte, decide_eq_true_eq, Bool.false_eq_true, Int.natCast_inj, Int.toNat_natCast, Option.isSome_some, Option.isSome_none, Option.isNone_none, Option.isNone_some, Bool.or_eq_true, Bool.and_eq_true, Bool.not_eq_true', decide_eq_false_iff_not, Bool.not_true, Bool.not_false, beq_self_eq_true, Option.map_some, Option.bind_some, true_and, and_true, false_and, and_false, or_true, true_or, or_false, false_or, Nat.reduceLeDiff, Nat.reduceLT, Bool.false_and, Bool.true_and, Bool.and_false, Bool.and_true, Nat.zero_le, List.length_map, List.length_set, List.length_append, List.length_zipIdx, List.length_range, gt_iff_lt, not_true_eq_false, not_false_eq_true, eq_self, Bool.false_xor, Bool.true_xor, Bool.xor_false, List.not_mem_nil, decide_true, decide_false, $[$es:term],*])
theorem beq_ok : m_Book_eq [bk ks R, bk ks' R'] S = .ok (.bl (decide (ks = ks') && decide (R = R'))) S := by
  apply fz_hold
  exists b_Book_eq
theorem own_bk {f : Bool → Bool} {g : Fn} : oOwn 0 g f (bk ks R) (bk ks' R') S = (g [bk ks R, bk ks' R'] S).bind (wantB f) := id rfl
theorem wantB_bl {f : Bool → Bool} {b : Bool} : wantB f (.bl b) S = .ok (.bl (f b)) S := id rfl
theorem lenO_bk {n : Int} {g : Fn} (h : g [bk ks R] S = .ok (.int n) S) (h0 : 0 ≤ n) (h1 : n < 1000000) : bLenO 0 g [bk ks R] S = .ok (.int n) S := by
  unfold bLenO
  dsimp only
  rw [if_pos bk_of, h, Re.bind_ok]
  exact if_pos ⟨h0, by omega⟩
/-! ### crowds -/
def eI3 (a b c : Nat) : Dv := .tup [.int a, .int b, .int c]
def badC (n : Int) (c : List Int) : Bool := !decide ((c.length : Int) = n) || c.any fun x => decide (x < 0)
local macro_rules | `(tactic| exists $es,*) => `(tactic| simp (disch := first | omega | assumption | (simp only [*, Option.isSome_some, List.length_map, List.length_set]; done) | (simp only [*, Option.isSome_some, List.length_map, List.length_set]; omega)) only [DL.fmi_int, DL.fmi_nm, DL.fmi_eR, DL.hold_seq, DL.hold_nx, DL.hold_nx0, DL.hold_ret, DL.hold_brk, DL.hold_ct, DL.hold_exc, DL.toR_nx, DL.toR_ret, DL.toR_exc, DL.bnd_ok, DL.bnd_exc, DL.toS_ok, DL.toS_exc, DL.opt_some, DL.condR_true, DL.condR_of, DL.condS_true, DL.condS_of, DL.condR_bind, DL.condR_toS, DL.condR_condR, DL.getV_some, DL.ap_eV, DL.ap_eC, DL.ap_e1, DL.ap_e2, DL.ap_aNil, DL.ap_aCons, DL.ap_eN, DL.ap_eCall, DL.ap_eCallK, DL.ap_eMth, DL.ap_eMth0, DL.ap_eMthK, DL.ap_eM, DL.asB_bl, DL.ap_tV, DL.ap_tAnd, DL.ap_tOr, DL.ap_tNot, DL.ap_tYes, DL.ap_eIf, DL.andK_bl, DL.orK_bl, DL.ap_eAnd, DL.ap_eOr, DL.ap_uNot, DL.ap_uNeg, DL.ap_xNone, DL.asO_int, DL.ap_xSome, DL.ap_eSl, DL.chK_int, DL.ap_eCh, DL.ap_sNil, DL.ap_sBrk, DL.ap_sCt, DL.ap_sExpr, DL.ap_sRet, DL.ap_sSet, DL.ap_sIf, DL.ap_sAsg, DL.parK_ok, DL.ap_sPar, DL.ap_sRaise, DL.ap_sFld, DL.ap_gN, DL.ap_gTp, DL.ap_gsNil, DL.gsK_some, DL.ap_gsCons, DL.gUl_lst, DL.ap_gUl, DL.ap_gIx, DL.ixK_cell, DL.ixK2_int, DL.putO_lst, DL.putO_0, DL.putO_1, DL.putO_2, DL.asL_lst, DL.asR_lst, DL.asR_ro, DL.asQ_lst, DL.asQ_ro, DL.asQ_tup, DL.asQ_ktup, DL.lstO_lst, DL.asL_cell, DL.asR_cell, DL.asQ_cell, DL.isL_def, DL.add_int, DL.oI_int, DL.oIc_int, DL.oB_int, DL.is_non, DL.is_int, DL.is_str, DL.is_lst, DL.is_tup, DL.is_cell, DL.isn_non, DL.isn_int, DL.isn_str, DL.isn_lst, DL.isn_tup, DL.isn_cell, DL.mkT_ok, DL.mkL_ok, DL.mkC_ok, DL.add_lst, DL.addK_ok, DL.addC_ap, DL.lenO_some, DL.len_cell, DL.len_lst, DL.len_tup, DL.len_ktup, DL.len_ro, DL.bLen_of, DL.bInt_int, DL.bInt_bl, DL.bAbs_int, DL.bMax_int, DL.bMin_int, DL.lstK_some, DL.lstCK_some, DL.tupK_some, DL.ktupK_some, DL.bList_of, DL.bListC_of, DL.bTuple_tup, DL.tuple_cell, DL.tuple_lst, DL.tuple_ro, DL.tuple_ktup, DL.bTuple_of, DL.bTupleK_of, DL.mApp_ap, DL.appO_lst, DL.mPopAt_ap, DL.mulL_2, DL.someR_ok, DL.ixO_some, DL.ix_cell, DL.ix_lst, DL.ix_tup, DL.ix_ktup, DL.ix_ro, DL.ix_of, DL.sl_tup, DL.sl_lst, DL.slK_some, DL.sl_cell, DL.cut_take, DL.cut_drop, DL.take_map, DL.drop_map, DL.atI_map, DL.atI_0, DL.atI_1, DL.atI_2, DL.atI_3, DL.wipe_nil, DL.wipe_cons, DL.noexc_k, DL.noexc_c, DL.ap_turn, DL.trnK_some, DL.ap_lcD, DL.ap_eLc, DL.ap_eLcC, DL.lcK_typed, DL.lcT_ok, DL.lcT_cond, DL.always_is, DL.ite_ok, DL.ite_int, DL.ite_bl, DL.fm_int, DL.fm_bl, DL.fm_str, DL.fm_if, DL.ap_iSeq, DL.it_lst, DL.it_ro, DL.it_tup, DL.it_ktup, DL.itO_lst, DL.it_cell, DL.any_lst, DL.all_lst, DL.any_map', DL.all_map', DL.push_len, DL.push_push, DL.get_0, DL.get_1, DL.get_2, DL.set_0, DL.set_1, DL.set_2, DL.set_len, DL.set_set, DL.get_app, DL.set_app, DL.get_aft, DL.get_aft0, DL.set_aft, DL.set_aft0, DL.str_eq, DL.int_eq, DL.ints_eq, DL.intsT_eq, DL.id_is, DL.eq_nn, DL.eq_nilI, DL.eq_nilN, DL.sum_lst, DL.set_ints, DL.app_ints, DL.ite_true', DL.ite_false', DL.pickO_some, DL.pick_nil, DL.pick_cons, DL.fzR_py, DL.fz_non, DL.fz_nonT, DL.fz_int, DL.fz_intT, DL.fz_bl, DL.fz_blT, DL.fz_ints, DL.fz_intsT, DL.fz_tints, DL.fz_tintsT, DL.nxt_nx, DL.nxt_ct, DL.nxt_brk, DL.nxt_ret, DL.nxt_exc, DL.ap_iRg1, DL.ap_iRg2, DL.rgK_ok, DL.rgK2_ok, DL.ap_iEn, DL.enK_lst, DL.enK_ro, DL.ap_iZp, DL.zpK_tup, DL.zpK_lst, DL.turn_eI, DL.turn_eP, DL.len_str, DL.it_str, DL.in_ch, DL.app_map, DL.it_eR, DL.ix_eR0, DL.ix_eR1, DL.ix_eR2, DL.eq_nm, DL.eq_eR, DL.is_eR, DL.isn_eR, DL.eq_nilR, DL.rl_len, DL.atI_ix, DL.it_dI, DL.map_dI, DL.fm_eR, DL.fm_nm, DL.tup3_eR, DL.app_rs, DL.map_id'', DL.fm_dI, DL.tup_eR, DL.eta_nm, DL.eta_eR, DL.eta_dI, DL.bk_kinds, DL.bk_rules, DL.bk_of, DL.fz_nms, DL.fz_rs, DL.fz_bk, DL.kinds_ok, DL.rules_ok, DL.blen_ok, DL.prp_bk, DL.ins_bk1, DL.in_ktup, DL.in_rtup, DL.in_rlst, DL.eq_ktup, DL.eq_rtup, DL.eq_rlst, DL.eq_nlst, DL.isi_bk, DL.beq_ok, DL.own_bk, DL.wantB_bl, DL.lenO_bk, reduceDIte, Nat.reduceEqDiff, dreduceDIte, Int.reduceNegSucc, Nat.reduceOr, Nat.reducePow, Nat.reduceGT, Nat.reduceBneDiff, Nat.reduceSubDiff, Nat.reduceMod, Int.reduceGE, Int.reduceToNat, Int.reduceEq, dreduceIte, Int.reduceGT, Int.reducePow, Nat.reduceBNe, Int.reduceDiv, Int.reduceMul, reduceCtorEq, Int.reduceBEq, Nat.reduceBeqDiff, String.reduceNe, String.reduceBNe, Int.reduceNe, String.reduceBEq, Int.reduceSub, Int.reduceAbs, Int.reduceLT, Int.reduceNeg, Nat.reduceDiv, Int.reduceBNe, Int.reduceDvd, Int.reduceAdd, Nat.reduceBEq, Nat.reduceSucc, String.reduceEq, Int.reduceLE, Int.reduceMod, reduceIte, Int.reduceFDiv, Int.reduceFMod, startD, List.map_cons, List.map_nil, List.length_cons, List.length_nil, List.replicate_succ, List.replicate_zero, Nat.reduceAdd, Nat.reduceSub, Nat.reduceMul, List.cons_append, List.nil_append, List.getElem?_cons_zero, List.getElem?_cons_succ, List.set_cons_zero, List.set_cons_succ, ↓reduceIte, decide_eq_true_eq, Bool.false_eq_true, Int.natCast_inj, Int.toNat_natCast, Option.isSome_some, Option.isSome_none, Option.isNone_none, Option.isNone_some, Bool.or_eq_true, Bool.and_eq_true, Bool.not_eq_true', decide_eq_false_iff_not, Bool.not_true, Bool.not_false, beq_self_eq_true, Option.map_some, Option.bind_some, true_and, and_true, false_and, and_false, or_true, true_or, or_false, false_or, Nat.reduceLeDiff, Nat.reduceLT, Bool.false_and, Bool.true_and, Bool.and_false, Bool.and_true, Nat.zero_le, List.length_map, List.length_set, List.length_append, List.length_zipIdx, List.length_range, gt_iff_lt, not_true_eq_false, not_false_eq_true, eq_self, Bool.false_xor, Bool.true_xor, Bool.xor_false, List.not_mem_nil, decide_true, decide_false, $[$es:term],*])
theorem check_crowd_ok {d : Dv} {c : List Int} {n : Int} (h : Rv S d (c.map .int)) (hl : c.length ≤ 1000) : m_check_crowd [.int n, d] S = if badC n c = true then .exc 7 (.lst (c.map .int)) S else .ok .non S := by
  apply fz_hold
  exists b_check_crowd, h.len, h.it, h.ck, h.q, badC
  by_cases h1 : (c.length : Int) = n
  · by_cases h2 : (c.any fun x => decide (x < 0)) = true
    · exists h1, h2
      exact fzx_en (iL Dv.int) 7 c
    · exists h1, h2
  · exists h1
    exact fzx_en (iL Dv.int) 7 c
def stp (c : List Int) (f t : Nat) : List Int :=
  let c1 := c.set f (nth' c f - 1)
  c1.set t (nth' c1 t + 1)
def able1 (c : List Int) (f w : Nat) : Bool := decide (1 ≤ nth' c f) && decide ((if w = f then 2 else 1) ≤ nth' c w)
def eCO (f : List Int → Dv) : Option (List Int) → Dv
  | none => .non
  | some c => f c
def movO (c : List Int) (f w t : Nat) : Option (List Int) := if able1 c f w = true then some (stp c f t) else none
def eIT (c : List Int) : Dv := .tup (c.map .int)
theorem moved_ok {d : Dv} {c : List Int} {f w t : Nat} (h : Rv S d (c.map .int)) (hf : f < c.length) (hw : w < c.length) (ht : t < c.length) :
   m_moved [d, eI3 f w t] S = .ok (eCO eIT (movO c f w t)) S := by
  apply fz_hold
  exists b_moved, eI3, h.ix
  by_cases hb : nth' c f < 1 ∨ nth' c w < 1 + if w = f then 1 else 0
  · exists hb
    rw [movO, if_neg (by unfold able1; simp only [Bool.and_eq_true, decide_eq_true_eq]; split at hb <;> simp_all <;> omega)]
    rfl
  · exists hb, h.q
    rw [movO, if_pos (by unfold able1; simp only [Bool.and_eq_true, decide_eq_true_eq]; split at hb <;> simp_all <;> omega)]
    rfl
theorem places_ok {r : Ru} (hr : ∀ n ∈ rl r, n ∈ ks) : m_places_of [bk ks R, eR r] S = .ok (dI ks r) S := by
  apply fz_hold
  have e : (eM isKt mTIndex) = eM isKt mTIndex := rfl
  exists b_places_of, ktup_indexC, isKt
  rfl
end
end DL

namespace DL
open PySem PySem.Spec PyProof.Rows L2
/-! ### rules done -/
def mv (ks : List Nm) (c : List Int) (r : Ru) : Option (List Int) := movO c (ixOf r.1 ks) (ixOf r.2.1 ks) (ixOf r.2.2 ks)
/-- rules over these kinds -/
def gd (ks : List Nm) (r : Ru) : Prop := (∀ n ∈ rl r, n ∈ ks) ∧ r.2.2 ≠ r.1
instance : Inhabited Nm := ⟨⟨"a", by decide +kernel⟩⟩
section
variable {S : Sto} {ks : List Nm} {R : List Ru}
theorem step_ok {d : Dv} {c : List Int} {r : Ru} (hr : gd ks r) (h : Rv S d (c.map .int)) (hl : c.length = ks.length) : m_moved [d, dI ks r] S = .ok (eCO eIT (mv ks c r)) S := by
  have a1 := ixOf_lt (hr.1 r.1 (by simp [rl]))
  have a2 := ixOf_lt (hr.1 r.2.1 (by simp [rl]))
  have a3 := ixOf_lt (hr.1 r.2.2 (by simp [rl]))
  exact moved_ok h (by omega) (by omega) (by omega)
theorem mv_len {c c' : List Int} {r : Ru} (h : mv ks c r = some c') : c'.length = c.length := by
  unfold mv movO at h
  split at h
  · cases h
    unfold stp
    simp
  · cases h
def eIL (c : List Int) : Dv := .lst (c.map .int)
instance iIL : En2 eIL := iL Dv.int
theorem isn_eCOL {o : Option (List Int)} : oIsNot (eCO eIL o) .non S = .ok (.bl o.isSome) S := by cases o <;> rfl
theorem is_eCOL {o : Option (List Int)} : oIs (eCO eIL o) .non S = .ok (.bl o.isNone) S := by cases o <;> rfl
theorem is_eCOT {o : Option (List Int)} : oIs (eCO eIT o) .non S = .ok (.bl o.isNone) S := by cases o <;> rfl
theorem isn_eCOT {o : Option (List Int)} : oIsNot (eCO eIT o) .non S = .ok (.bl o.isSome) S := by cases o <;> rfl
/-- a run: the crowd behind it, or the place of the first rule that cannot be done -/
def folE (ks : List Nm) (R : List Ru) : Nat → List Int → List Ru → Nat ⊕ List Int
  | _, c, [] => .inr c
  | at_, c, r :: l => if r ∈ R then (match mv ks c r with
    | some c' => folE ks R (at_ + 1) c' l
    | none => .inl at_) else .inl at_
theorem it_eIT {c : List Int} : Rv S (eIT c) (c.map .int) := .tup _
theorem is_eIT {c : List Int} : oIs (eIT c) .non S = .ok (.bl false) S := id rfl
inductive Goes (ks : List Nm) (R : List Ru) : List Int → List Ru → List Int → Prop
  | nil (c : List Int) : Goes ks R c [] c
  | cons {c c1 c' : List Int} {r : Ru} {l : List Ru} (hr : r ∈ R) (hv : mv ks c r = some c1) (h : Goes ks R c1 l c') : Goes ks R c (r :: l) c'
theorem Goes.fol {c c' : List Int} {l : List Ru} (h : Goes ks R c l c') : ∀ a, folE ks R a c l = .inr c' := by
  induction h with
  | nil c => exact fun _ => rfl
  | cons hr hv _ ih => intro a; rw [folE, if_pos hr, hv]; exact ih _
theorem Goes.app {c c' c2 : List Int} {l m : List Ru} (h : Goes ks R c l c') (h2 : Goes ks R c' m c2) : Goes ks R c (l ++ m) c2 := by
  induction h with
  | nil c => exact h2
  | cons hr hv _ ih => exact .cons hr hv (ih h2)
theorem Goes.one {c c' : List Int} {r : Ru} (hr : r ∈ R) (hv : mv ks c r = some c') : Goes ks R c [r] c' := .cons hr hv (.nil _)
theorem folE_drop {run : List Ru} {i : Nat} {q : Ru} (h : run[i]? = some q) : run.drop i = q :: run.drop (i + 1) := by
  obtain ⟨h1, h2⟩ := List.getElem?_eq_some_iff.mp h
  rw [List.drop_eq_getElem_cons h1, h2]
local macro_rules | `(tactic| exists $es,*) => `(tactic| simp (disch := first | omega | assumption | (simp only [*, Option.isSome_some, List.length_map, List.length_set]; done) | (simp only [*, Option.isSome_some, List.length_map, List.length_set]; omega)) only [DL.fmi_int, DL.fmi_nm, DL.fmi_eR, DL.hold_seq, DL.hold_nx, DL.hold_nx0, DL.hold_ret, DL.hold_brk, DL.hold_ct, DL.hold_exc, DL.toR_nx, DL.toR_ret, DL.toR_exc, DL.bnd_ok, DL.bnd_exc, DL.toS_ok, DL.toS_exc, DL.opt_some, DL.condR_true, DL.condR_of, DL.condS_true, DL.condS_of, DL.condR_bind, DL.condR_toS, DL.condR_condR, DL.getV_some, DL.ap_eV, DL.ap_eC, DL.ap_e1, DL.ap_e2, DL.ap_aNil, DL.ap_aCons, DL.ap_eN, DL.ap_eCall, DL.ap_eCallK, DL.ap_eMth, DL.ap_eMth0, DL.ap_eMthK, DL.ap_eM, DL.asB_bl, DL.ap_tV, DL.ap_tAnd, DL.ap_tOr, DL.ap_tNot, DL.ap_tYes, DL.ap_eIf, DL.andK_bl, DL.orK_bl, DL.ap_eAnd, DL.ap_eOr, DL.ap_uNot, DL.ap_uNeg, DL.ap_xNone, DL.asO_int, DL.ap_xSome, DL.ap_eSl, DL.chK_int, DL.ap_eCh, DL.ap_sNil, DL.ap_sBrk, DL.ap_sCt, DL.ap_sExpr, DL.ap_sRet, DL.ap_sSet, DL.ap_sIf, DL.ap_sAsg, DL.parK_ok, DL.ap_sPar, DL.ap_sRaise, DL.ap_sFld, DL.ap_gN, DL.ap_gTp, DL.ap_gsNil, DL.gsK_some, DL.ap_gsCons, DL.gUl_lst, DL.ap_gUl, DL.ap_gIx, DL.ixK_cell, DL.ixK2_int, DL.putO_lst, DL.putO_0, DL.putO_1, DL.putO_2, DL.asL_lst, DL.asR_lst, DL.asR_ro, DL.asQ_lst, DL.asQ_ro, DL.asQ_tup, DL.asQ_ktup, DL.lstO_lst, DL.asL_cell, DL.asR_cell, DL.asQ_cell, DL.isL_def, DL.add_int, DL.oI_int, DL.oIc_int, DL.oB_int, DL.is_non, DL.is_int, DL.is_str, DL.is_lst, DL.is_tup, DL.is_cell, DL.isn_non, DL.isn_int, DL.isn_str, DL.isn_lst, DL.isn_tup, DL.isn_cell, DL.mkT_ok, DL.mkL_ok, DL.mkC_ok, DL.add_lst, DL.addK_ok, DL.addC_ap, DL.lenO_some, DL.len_cell, DL.len_lst, DL.len_tup, DL.len_ktup, DL.len_ro, DL.bLen_of, DL.bInt_int, DL.bInt_bl, DL.bAbs_int, DL.bMax_int, DL.bMin_int, DL.lstK_some, DL.lstCK_some, DL.tupK_some, DL.ktupK_some, DL.bList_of, DL.bListC_of, DL.bTuple_tup, DL.tuple_cell, DL.tuple_lst, DL.tuple_ro, DL.tuple_ktup, DL.bTuple_of, DL.bTupleK_of, DL.mApp_ap, DL.appO_lst, DL.mPopAt_ap, DL.mulL_2, DL.someR_ok, DL.ixO_some, DL.ix_cell, DL.ix_lst, DL.ix_tup, DL.ix_ktup, DL.ix_ro, DL.ix_of, DL.sl_tup, DL.sl_lst, DL.slK_some, DL.sl_cell, DL.cut_take, DL.cut_drop, DL.take_map, DL.drop_map, DL.atI_map, DL.atI_0, DL.atI_1, DL.atI_2, DL.atI_3, DL.wipe_nil, DL.wipe_cons, DL.noexc_k, DL.noexc_c, DL.ap_turn, DL.trnK_some, DL.ap_lcD, DL.ap_eLc, DL.ap_eLcC, DL.lcK_typed, DL.lcT_ok, DL.lcT_cond, DL.always_is, DL.ite_ok, DL.ite_int, DL.ite_bl, DL.fm_int, DL.fm_bl, DL.fm_str, DL.fm_if, DL.ap_iSeq, DL.it_lst, DL.it_ro, DL.it_tup, DL.it_ktup, DL.itO_lst, DL.it_cell, DL.any_lst, DL.all_lst, DL.any_map', DL.all_map', DL.push_len, DL.push_push, DL.get_0, DL.get_1, DL.get_2, DL.set_0, DL.set_1, DL.set_2, DL.set_len, DL.set_set, DL.get_app, DL.set_app, DL.get_aft, DL.get_aft0, DL.set_aft, DL.set_aft0, DL.str_eq, DL.int_eq, DL.ints_eq, DL.intsT_eq, DL.id_is, DL.eq_nn, DL.eq_nilI, DL.eq_nilN, DL.sum_lst, DL.set_ints, DL.app_ints, DL.ite_true', DL.ite_false', DL.pickO_some, DL.pick_nil, DL.pick_cons, DL.fzR_py, DL.fz_non, DL.fz_nonT, DL.fz_int, DL.fz_intT, DL.fz_bl, DL.fz_blT, DL.fz_ints, DL.fz_intsT, DL.fz_tints, DL.fz_tintsT, DL.nxt_nx, DL.nxt_ct, DL.nxt_brk, DL.nxt_ret, DL.nxt_exc, DL.ap_iRg1, DL.ap_iRg2, DL.rgK_ok, DL.rgK2_ok, DL.ap_iEn, DL.enK_lst, DL.enK_ro, DL.ap_iZp, DL.zpK_tup, DL.zpK_lst, DL.turn_eI, DL.turn_eP, DL.len_str, DL.it_str, DL.in_ch, DL.app_map, DL.it_eR, DL.ix_eR0, DL.ix_eR1, DL.ix_eR2, DL.eq_nm, DL.eq_eR, DL.is_eR, DL.isn_eR, DL.eq_nilR, DL.rl_len, DL.atI_ix, DL.it_dI, DL.map_dI, DL.fm_eR, DL.fm_nm, DL.tup3_eR, DL.app_rs, DL.map_id'', DL.fm_dI, DL.tup_eR, DL.eta_nm, DL.eta_eR, DL.eta_dI, DL.bk_kinds, DL.bk_rules, DL.bk_of, DL.fz_nms, DL.fz_rs, DL.fz_bk, DL.kinds_ok, DL.rules_ok, DL.blen_ok, DL.prp_bk, DL.ins_bk1, DL.in_ktup, DL.in_rtup, DL.in_rlst, DL.eq_ktup, DL.eq_rtup, DL.eq_rlst, DL.eq_nlst, DL.isi_bk, DL.beq_ok, DL.own_bk, DL.wantB_bl, DL.lenO_bk, DL.isn_eCOL, DL.is_eCOL, DL.is_eCOT, DL.isn_eCOT, DL.it_eIT, DL.is_eIT, reduceDIte, Nat.reduceEqDiff, dreduceDIte, Int.reduceNegSucc, Nat.reduceOr, Nat.reducePow, Nat.reduceGT, Nat.reduceBneDiff, Nat.reduceSubDiff, Nat.reduceMod, Int.reduceGE, Int.reduceToNat, Int.reduceEq, dreduceIte, Int.reduceGT, Int.reducePow, Nat.reduceBNe, Int.reduceDiv, Int.reduceMul, reduceCtorEq, Int.reduceBEq, Nat.reduceBeqDiff, String.reduceNe, String.reduceBNe, Int.reduceNe, String.reduceBEq, Int.reduceSub, Int.reduceAbs, Int.reduceLT, Int.reduceNeg, Nat.reduceDiv, Int.reduceBNe, Int.reduceDvd, Int.reduceAdd, Nat.reduceBEq, Nat.reduceSucc, String.reduceEq, Int.reduceLE, Int.reduceMod, reduceIte, Int.reduceFDiv, Int.reduceFMod, startD, List.map_cons, List.map_nil, List.length_cons, List.length_nil, List.replicate_succ, List.replicate_zero, Nat.reduceAdd, Nat.reduceSub, Nat.reduceMul, List.cons_append, List.nil_append, List.getElem?_cons_zero, List.getElem?_cons_succ, List.set_cons_zero, List.set_cons_succ, ↓reduceIte, decide_eq_true_eq, Bool.false_eq_true, Int.natCast_inj, Int.toNat_natCast, Option.isSome_some, Option.isSome_none, Option.isNone_none, Option.isNone_some, Bool.or_eq_true, Bool.and_eq_true, Bool.not_eq_true', decide_eq_false_iff_not, Bool.not_true, Bool.not_false, beq_self_eq_true, Option.map_some, Option.bind_some, true_and, and_true, false_and, and_false, or_true, true_or, or_false, false_or, Nat.reduceLeDiff, Nat.reduceLT, Bool.false_and, Bool.true_and, Bool.and_false, Bool.and_true, Nat.zero_le, List.length_map, List.length_set, List.length_append, List.length_zipIdx, List.length_range, gt_iff_lt, not_true_eq_false, not_false_eq_true, eq_self, Bool.false_xor, Bool.true_xor, Bool.xor_false, List.not_mem_nil, decide_true, decide_false, $[$es:term],*])
theorem followC_ok {d rd : Dv} {c : List Int} {run : List Ru} (hR : ∀ r ∈ R, gd ks r) (h : Rl S d (c.map .int)) (hr : Rl S rd (run.map eR)) (hb : badC ks.length c = false) (hk : ks.length ≤ 100) (hl : run.length ≤ 1000) :
    m_followC [bk ks R, d, rd] S = match folE ks R 0 c run with
      | .inr c' => .ok (.cell S.length) (S ++ [.lst (c'.map .int)])
      | .inl i => .exc 10 (.int i) S := by
  have hcl : c.length = ks.length := by
    unfold badC at hb
    simp only [Bool.or_eq_false_iff, Bool.not_eq_false', decide_eq_true_eq] at hb
    omega
  have run' : Hold (b_followC (startD 6 [bk ks R, d, rd]) S) [] (fun q => q.toR = match folE ks R 0 c run with
      | .inr c' => .ok (.cell S.length) (S ++ [.lst (c'.map .int)])
      | .inl i => .exc 10 (.int i) S) := by
    exists b_followC, check_crowd_ok h.rv, hb, h.tup, hr.rv.len
    refine for_range (n := run.length) (chk := always) (S1 := S) (fun i ρ S' => S' = S ∧ ∃ (c' : List Int) (x y : Option Dv), ρ = [some (bk ks R), some d, some rd, some (eIT c'), x, y] ∧ c'.length = ks.length ∧ folE ks R 0 c run = folE ks R i c' (run.drop i)) ?_ trivial ⟨rfl, c, none, none, rfl, hcl, rfl⟩ ?_ ?_
    · exists hr.rv.len
    · rintro i ρ S' hi ⟨rfl, c', x, y, rfl, hl', e⟩
      obtain ⟨q, hq⟩ : ∃ q, run[i]? = some q := ⟨run[i], List.getElem?_eq_getElem hi⟩
      have ix : oIx rd (.int i) S' = .ok (eR q) S' := by
        rw [hr.rv.ix, ixO_some, atI_nat (x := eR q) (by omega) (by rw [Int.toNat_natCast, List.getElem?_map, hq]; rfl)]
        rfl
      rw [folE_drop hq, folE] at e
      by_cases hm : q ∈ R
      · rw [if_pos hm] at e
        exists ix, hm, places_ok (hR q hm).1, step_ok (hR q hm) it_eIT hl'
        cases hv : mv ks c' q with
        | none =>
          rw [hv] at e
          exists eCO
          rw [e]
        | some c2 =>
          rw [hv] at e
          exists eCO
          exact ⟨c2, _, _, rfl, by rw [mv_len hv, hl'], e⟩
      · rw [if_neg hm] at e
        exists ix, hm
        rw [e]
    · rintro ρ S' ⟨rfl, c', x, y, rfl, hl', e⟩
      rw [List.drop_length] at e
      exists eIT
      rw [e]
      rfl
  exact run'
end
end DL

/-! repr of typed data. -/
namespace DL
open PySem PySem.Spec PyProof.Rows L2
noncomputable def reprT (S : Sto) : Option PyData → Re Dv
  | some p => condR (reprOk p = true) (.ok (.str p.shown) S)
  | none => .bad
section
variable {S : Sto} {α : Type} {f : α → Dv}
theorem reprT_of {d : Dv} (h : boxD d = true) : bRepr [d] S = reprT S (toPy S d) := by
  unfold bRepr reprT
  dsimp only
  rw [if_pos h]
  cases toPy S d with
  | none => rfl
  | some p =>
    dsimp only
    unfold condR
    split <;> rfl
theorem repr_lst {l : List Dv} : bRepr [.lst l] S = reprT S (toPy S (.lst l)) := reprT_of rfl
theorem repr_tup {l : List Dv} : bRepr [.tup l] S = reprT S (toPy S (.tup l)) := reprT_of rfl
theorem repr_cell {k : Nat} : bRepr [.cell k] S = reprT S (toPy S (.cell k)) := reprT_of rfl
theorem repr_eIL {c : List Int} : bRepr [eIL c] S = reprT S (toPy S (.lst (c.map .int))) := reprT_of rfl
theorem reprT_some {p : PyData} : reprT S (some p) = condR (reprOk p = true) (.ok (.str p.shown) S) := id rfl
theorem py_int {i : Int} : toPy S (.int i) = some (.int i) := by rw [toPy]
theorem py_str {i : Str} : toPy S (.str i) = some (.str i) := by rw [toPy]
theorem py_bl {i : Bool} : toPy S (.bl i) = some (.bool i) := by rw [toPy]
theorem py_non : toPy S .non = some .none := by rw [toPy]
theorem py_nm {i : Nm} : toPy S (eN' i) = some (.str i.1) := by rw [eN', toPy]
def gR (r : Ru) : PyData := .tuple [.str r.1.1, .str r.2.1.1, .str r.2.2.1]
def gIL (c : List Int) : PyData := .list (c.map .int)
theorem py_eR {r : Ru} : toPy S (eR r) = some (gR r) := en_py iR r
theorem py_eIL {c : List Int} : toPy S (eIL c) = some (gIL c) := en_py iIL c
theorem py_lst' {l : List Dv} : toPy S (.lst l) = (toPys S l).map .list := by rw [toPy]
theorem py_tup' {l : List Dv} : toPy S (.tup l) = (toPys S l).map .tuple := by rw [toPy]
theorem pys_nil : toPys S [] = some [] := by rw [toPys]
theorem pys_cons {d : Dv} {r : List Dv} : toPys S (d :: r) = (toPy S d).bind fun p => (toPys S r).map fun ps => p :: ps := by rw [toPys]
theorem pys_int {l : List Int} : toPys S (l.map .int) = some (l.map .int) := toPys_of (pyPs_en (f := Dv.int) l)
theorem pys_nm {l : List Nm} : toPys S (l.map eN') = some (l.map fun x => .str x.1) := toPys_of (pyPs_en (f := eN') l)
theorem pys_eR {l : List Ru} : toPys S (l.map eR) = some (l.map gR) := toPys_of (pyPs_en (f := eR) l)
theorem pys_eIL {l : List (List Int)} : toPys S (l.map eIL) = some (l.map gIL) := toPys_of (pyPs_en (f := eIL) l)
def cellPy : Option Ob → Option PyData
  | some (.lst l) => (pyPs l).map .list
  | _ => none
theorem py_cell' {k : Nat} : toPy S (.cell k) = cellPy S[k]? := by
  rw [toPy]
  unfold cellPy
  cases S[k]? with
  | none => rfl
  | some o => cases o <;> rfl
theorem cellPy_lst {l : List Dv} : cellPy (some (.lst l)) = (pyPs l).map .list := id rfl
theorem pyp_int {l : List Int} : pyPs (l.map .int) = some (l.map .int) := pyPs_en (f := Dv.int) l
theorem pyp_nm {l : List Nm} : pyPs (l.map eN') = some (l.map fun x => .str x.1) := pyPs_en (f := eN') l
theorem pyp_eR {l : List Ru} : pyPs (l.map eR) = some (l.map gR) := pyPs_en (f := eR) l
theorem pyp_eIL {l : List (List Int)} : pyPs (l.map eIL) = some (l.map gIL) := pyPs_en (f := eIL) l
end
/-! ### how long it is -/
structure Rpr (n d : Nat) (p : PyData) : Prop where
  sh : p.showable = true
  nd : p.hasDict = false
  ln : p.shown.length ≤ n
  dp : p.depth ≤ d
theorem Rpr.ok {n d : Nat} {p : PyData} (h : Rpr n d p) (hn : n ≤ 16777216) (hd : d ≤ 16) : reprOk p = true := by
  unfold reprOk
  rw [h.sh, h.nd, Bool.true_and, Bool.not_false, Bool.true_and, Bool.and_eq_true, decide_eq_true_eq, decide_eq_true_eq]
  exact ⟨by rw [sizeLine_is]; exact Nat.le_trans h.ln hn, Nat.le_trans h.dp hd⟩
theorem Rpr.mono {n d n' d' : Nat} {p : PyData} (h : Rpr n d p) (hn : n ≤ n') (hd : d ≤ d') : Rpr n' d' p := ⟨h.sh, h.nd, Nat.le_trans h.ln hn, Nat.le_trans h.dp hd⟩
theorem rpr_int {i : Int} (h : i.natAbs < 10 ^ 12) : Rpr 13 0 (.int i) := by
  refine ⟨?_, by rw [PyData.hasDict], PyData.shown_int_le h, by rw [PyData.depth]; exact Nat.le_refl _⟩
  rw [PyData.showable, decide_eq_true_eq]
  by_cases h0 : i.natAbs = 0
  · rw [h0]; decide
  · have := (Nat.log2_lt h0).mpr (Nat.lt_trans h (by decide : 10 ^ 12 < 2 ^ 40))
    omega
theorem rpr_nm {x : Nm} (h : x.1.length ≤ 8) : Rpr 88 0 (.str x.1) := by
  refine ⟨by rw [PyData.showable], by rw [PyData.hasDict], ?_, by rw [PyData.depth]; exact Nat.le_refl _⟩
  have hl : (PyData.str x.1).leavesShort 8 = true := by
    have ok := x.2
    unfold PyData.strOk at ok
    rw [← Array.all_toList, List.all_eq_true] at ok
    simp only [PyData.leavesShort, List.all_eq_true, decide_eq_true_eq]
    intro c hc
    have := of_decide_eq_true (ok c hc)
    omega
  have := PyData.shown_le 8 (by omega) _ hl
  have hw : (PyData.str x.1).weight ≤ 8 := by rw [PyData.weight]; exact h
  omega
theorem rpr_bool {b : Bool} : Rpr 5 0 (.bool b) := ⟨by rw [PyData.showable], by rw [PyData.hasDict], by cases b <;> decide +kernel, by rw [PyData.depth]; exact Nat.le_refl _⟩
theorem rpr_none : Rpr 5 0 .none := ⟨by rw [PyData.showable], by rw [PyData.hasDict], by decide +kernel, by rw [PyData.depth]; exact Nat.le_refl _⟩
theorem rpr_all {n d : Nat} : ∀ {l : List PyData}, (∀ p ∈ l, Rpr n d p) → PyData.showableAll l = true ∧ PyData.hasDictAll l = false ∧ ((PyData.shownAll l).map (·.length)).sum ≤ n * l.length ∧ PyData.depthAll l ≤ d ∧ (PyData.shownAll l).length = l.length
  | [], _ => ⟨by rw [PyData.showableAll], by rw [PyData.hasDictAll], by rw [PyData.shownAll]; simp, by rw [PyData.depthAll]; omega, by rw [PyData.shownAll]; rfl⟩
  | p :: r, h => by
    obtain ⟨h1, h2, h3, h4, h5⟩ := rpr_all (l := r) fun q hq => h q (List.mem_cons_of_mem _ hq)
    have hp := h p List.mem_cons_self
    refine ⟨by rw [PyData.showableAll, hp.sh, h1]; rfl, by rw [PyData.hasDictAll, hp.nd, h2]; rfl, ?_, by rw [PyData.depthAll]; exact Nat.max_le.mpr ⟨hp.dp, h4⟩, by rw [PyData.shownAll, List.length_cons, List.length_cons, h5]⟩
    rw [PyData.shownAll, List.map_cons, List.sum_cons, List.length_cons, Nat.mul_add, Nat.mul_one]
    have := hp.ln
    omega
theorem rpr_list {n d k : Nat} {l : List PyData} (h : ∀ p ∈ l, Rpr n d p) (hk : l.length ≤ k) : Rpr ((n + 2) * k + 3) (d + 1) (.list l) := by
  obtain ⟨h1, h2, h3, h4, h5⟩ := rpr_all h
  refine ⟨by rw [PyData.showable]; exact h1, by rw [PyData.hasDict]; exact h2, ?_, by rw [PyData.depth]; omega⟩
  rw [PyData.shown]
  have := listText_len_le (PyData.shownAll l)
  have e : (n + 2) * l.length ≤ (n + 2) * k := Nat.mul_le_mul_left _ hk
  have e2 : (n + 2) * l.length = n * l.length + 2 * l.length := Nat.add_mul ..
  omega
theorem rpr_tuple {n d k : Nat} {l : List PyData} (h : ∀ p ∈ l, Rpr n d p) (hk : l.length ≤ k) : Rpr ((n + 2) * k + 3) (d + 1) (.tuple l) := by
  obtain ⟨h1, h2, h3, h4, h5⟩ := rpr_all h
  refine ⟨by rw [PyData.showable]; exact h1, by rw [PyData.hasDict]; exact h2, ?_, by rw [PyData.depth]; omega⟩
  rw [PyData.shown]
  have := tupleText_len_le (PyData.shownAll l)
  have e : (n + 2) * l.length ≤ (n + 2) * k := Nat.mul_le_mul_left _ hk
  have e2 : (n + 2) * l.length = n * l.length + 2 * l.length := Nat.add_mul ..
  omega
theorem rpr_map {α : Type} {g : α → PyData} {n d k : Nat} {l : List α} (h : ∀ a ∈ l, Rpr n d (g a)) (hk : l.length ≤ k) : Rpr ((n + 2) * k + 3) (d + 1) (.list (l.map g)) :=
  rpr_list (fun p hp => by obtain ⟨a, ha, rfl⟩ := List.mem_map.mp hp; exact h a ha) (by rw [List.length_map]; exact hk)
theorem rpr_ints {c : List Int} {k : Nat} (h : ∀ x ∈ c, x.natAbs < 10 ^ 12) (hk : c.length ≤ k) : Rpr (15 * k + 3) 1 (.list (c.map .int)) := rpr_map (fun x hx => rpr_int (h x hx)) hk
theorem rpr_rule {r : Ru} (h : ∀ x ∈ rl r, x.1.length ≤ 8) : Rpr 273 1 (gR r) := by
  have := rpr_tuple (n := 88) (d := 0) (k := 3) (l := (rl r).map fun x => .str x.1) (fun p hp => by obtain ⟨a, ha, rfl⟩ := List.mem_map.mp hp; exact rpr_nm (h a ha)) (by simp [rl])
  exact this
theorem rpr_rules {l : List Ru} {k : Nat} (h : ∀ r ∈ l, ∀ x ∈ rl r, x.1.length ≤ 8) (hk : l.length ≤ k) : Rpr (275 * k + 3) 2 (.list (l.map gR)) := rpr_map (fun x hx => rpr_rule (h x hx)) hk
theorem rpr_two {n d : Nat} {p q : PyData} (hp : Rpr n d p) (hq : Rpr n d q) : Rpr ((n + 2) * 2 + 3) (d + 1) (.list [p, q]) := rpr_list (l := [p, q]) (fun x hx => by
  simp only [List.mem_cons, List.not_mem_nil, or_false] at hx
  rcases hx with rfl | rfl
  · exact hp
  · exact hq) (Nat.le_refl _)
end DL

namespace DL
open PySem PySem.Spec PyProof.Rows L2
theorem log2_lt {n k : Nat} (hk : 0 < k) (h : n < 2 ^ k) : n.log2 < k := by
  by_cases h0 : n = 0
  · subst h0; simpa using hk
  · exact (Nat.log2_lt h0).mpr h
theorem cDiv_ok {i c : Int} (h1 : 0 < c) (h2 : c ≤ 8589934592) : cDiv i c = true := by
  unfold cDiv CDivW
  refine decide_eq_true ⟨h1, Nat.lt_trans (log2_lt (k := 34) (by omega) ?_) (by omega)⟩
  omega
theorem cMul_ok {i j : Int} (hi : i.natAbs < 2 ^ 70) (hj : j.natAbs < 2 ^ 70) : cMul i j = true := by
  unfold cMul
  rw [Bool.or_eq_true]
  refine .inr (decide_eq_true ?_)
  have h1 := log2_lt (k := 70) (by omega) hi
  have h2 := log2_lt (k := 70) (by omega) hj
  show i.natAbs.log2 + j.natAbs.log2 < 1000000
  omega
/-! ### draws -/
def ml (m : Int × Int) : Ob := .lst [.int m.1, .int m.2]
def mOk (m : Int × Int) : Prop := 0 ≤ m.2 ∧ m.2 < 18446744073709551616
local macro_rules | `(tactic| exists $es,*) => `(tactic| simp (disch := first | omega | assumption | (simp only [*, Option.isSome_some, List.length_map, List.length_set]; done) | (simp only [*, Option.isSome_some, List.length_map, List.length_set]; omega)) only [DL.fmi_int, DL.fmi_nm, DL.fmi_eR, DL.hold_seq, DL.hold_nx, DL.hold_nx0, DL.hold_ret, DL.hold_brk, DL.hold_ct, DL.hold_exc, DL.toR_nx, DL.toR_ret, DL.toR_exc, DL.bnd_ok, DL.bnd_exc, DL.toS_ok, DL.toS_exc, DL.opt_some, DL.condR_true, DL.condR_of, DL.condS_true, DL.condS_of, DL.condR_bind, DL.condR_toS, DL.condR_condR, DL.getV_some, DL.ap_eV, DL.ap_eC, DL.ap_e1, DL.ap_e2, DL.ap_aNil, DL.ap_aCons, DL.ap_eN, DL.ap_eCall, DL.ap_eCallK, DL.ap_eMth, DL.ap_eMth0, DL.ap_eMthK, DL.ap_eM, DL.asB_bl, DL.ap_tV, DL.ap_tAnd, DL.ap_tOr, DL.ap_tNot, DL.ap_tYes, DL.ap_eIf, DL.andK_bl, DL.orK_bl, DL.ap_eAnd, DL.ap_eOr, DL.ap_uNot, DL.ap_uNeg, DL.ap_xNone, DL.asO_int, DL.ap_xSome, DL.ap_eSl, DL.chK_int, DL.ap_eCh, DL.ap_sNil, DL.ap_sBrk, DL.ap_sCt, DL.ap_sExpr, DL.ap_sRet, DL.ap_sSet, DL.ap_sIf, DL.ap_sAsg, DL.parK_ok, DL.ap_sPar, DL.ap_sRaise, DL.ap_sFld, DL.ap_gN, DL.ap_gTp, DL.ap_gsNil, DL.gsK_some, DL.ap_gsCons, DL.gUl_lst, DL.ap_gUl, DL.ap_gIx, DL.ixK_cell, DL.ixK2_int, DL.putO_lst, DL.putO_0, DL.putO_1, DL.putO_2, DL.asL_lst, DL.asR_lst, DL.asR_ro, DL.asQ_lst, DL.asQ_ro, DL.asQ_tup, DL.asQ_ktup, DL.lstO_lst, DL.asL_cell, DL.asR_cell, DL.asQ_cell, DL.isL_def, DL.add_int, DL.oI_int, DL.oIc_int, DL.oB_int, DL.is_non, DL.is_int, DL.is_str, DL.is_lst, DL.is_tup, DL.is_cell, DL.isn_non, DL.isn_int, DL.isn_str, DL.isn_lst, DL.isn_tup, DL.isn_cell, DL.mkT_ok, DL.mkL_ok, DL.mkC_ok, DL.add_lst, DL.addK_ok, DL.addC_ap, DL.lenO_some, DL.len_cell, DL.len_lst, DL.len_tup, DL.len_ktup, DL.len_ro, DL.bLen_of, DL.bInt_int, DL.bInt_bl, DL.bAbs_int, DL.bMax_int, DL.bMin_int, DL.lstK_some, DL.lstCK_some, DL.tupK_some, DL.ktupK_some, DL.bList_of, DL.bListC_of, DL.bTuple_tup, DL.tuple_cell, DL.tuple_lst, DL.tuple_ro, DL.tuple_ktup, DL.bTuple_of, DL.bTupleK_of, DL.mApp_ap, DL.appO_lst, DL.mPopAt_ap, DL.mulL_2, DL.someR_ok, DL.ixO_some, DL.ix_cell, DL.ix_lst, DL.ix_tup, DL.ix_ktup, DL.ix_ro, DL.ix_of, DL.sl_tup, DL.sl_lst, DL.slK_some, DL.sl_cell, DL.cut_take, DL.cut_drop, DL.take_map, DL.drop_map, DL.atI_map, DL.atI_0, DL.atI_1, DL.atI_2, DL.atI_3, DL.wipe_nil, DL.wipe_cons, DL.noexc_k, DL.noexc_c, DL.ap_turn, DL.trnK_some, DL.ap_lcD, DL.ap_eLc, DL.ap_eLcC, DL.lcK_typed, DL.lcT_ok, DL.lcT_cond, DL.always_is, DL.ite_ok, DL.ite_int, DL.ite_bl, DL.fm_int, DL.fm_bl, DL.fm_str, DL.fm_if, DL.ap_iSeq, DL.it_lst, DL.it_ro, DL.it_tup, DL.it_ktup, DL.itO_lst, DL.it_cell, DL.any_lst, DL.all_lst, DL.any_map', DL.all_map', DL.push_len, DL.push_push, DL.get_0, DL.get_1, DL.get_2, DL.set_0, DL.set_1, DL.set_2, DL.set_len, DL.set_set, DL.get_app, DL.set_app, DL.get_aft, DL.get_aft0, DL.set_aft, DL.set_aft0, DL.str_eq, DL.int_eq, DL.ints_eq, DL.intsT_eq, DL.id_is, DL.eq_nn, DL.eq_nilI, DL.eq_nilN, DL.sum_lst, DL.set_ints, DL.app_ints, DL.ite_true', DL.ite_false', DL.pickO_some, DL.pick_nil, DL.pick_cons, DL.fzR_py, DL.fz_non, DL.fz_nonT, DL.fz_int, DL.fz_intT, DL.fz_bl, DL.fz_blT, DL.fz_ints, DL.fz_intsT, DL.fz_tints, DL.fz_tintsT, DL.nxt_nx, DL.nxt_ct, DL.nxt_brk, DL.nxt_ret, DL.nxt_exc, DL.ap_iRg1, DL.ap_iRg2, DL.rgK_ok, DL.rgK2_ok, DL.ap_iEn, DL.enK_lst, DL.enK_ro, DL.ap_iZp, DL.zpK_tup, DL.zpK_lst, DL.turn_eI, DL.turn_eP, DL.len_str, DL.it_str, DL.in_ch, DL.app_map, DL.it_eR, DL.ix_eR0, DL.ix_eR1, DL.ix_eR2, DL.eq_nm, DL.eq_eR, DL.is_eR, DL.isn_eR, DL.eq_nilR, DL.rl_len, DL.atI_ix, DL.it_dI, DL.map_dI, DL.fm_eR, DL.fm_nm, DL.tup3_eR, DL.app_rs, DL.map_id'', DL.fm_dI, DL.tup_eR, DL.eta_nm, DL.eta_eR, DL.eta_dI, DL.bk_kinds, DL.bk_rules, DL.bk_of, DL.fz_nms, DL.fz_rs, DL.fz_bk, DL.kinds_ok, DL.rules_ok, DL.blen_ok, DL.prp_bk, DL.ins_bk1, DL.in_ktup, DL.in_rtup, DL.in_rlst, DL.eq_ktup, DL.eq_rtup, DL.eq_rlst, DL.eq_nlst, DL.isi_bk, DL.beq_ok, DL.own_bk, DL.wantB_bl, DL.lenO_bk, DL.isn_eCOL, DL.is_eCOL, DL.is_eCOT, DL.isn_eCOT, DL.it_eIT, DL.is_eIT, DL.repr_lst, DL.repr_tup, DL.repr_cell, DL.repr_eIL, DL.reprT_some, DL.py_int, DL.py_str, DL.py_bl, DL.py_non, DL.py_nm, DL.py_eR, DL.py_eIL, DL.py_lst', DL.py_tup', DL.pys_nil, DL.pys_cons, DL.pys_int, DL.pys_nm, DL.pys_eR, DL.pys_eIL, DL.py_cell', DL.cellPy_lst, DL.pyp_int, DL.pyp_nm, DL.pyp_eR, DL.pyp_eIL, reduceDIte, Nat.reduceEqDiff, dreduceDIte, Int.reduceNegSucc, Nat.reduceOr, Nat.reducePow, Nat.reduceGT, Nat.reduceBneDiff, Nat.reduceSubDiff, Nat.reduceMod, Int.reduceGE, Int.reduceToNat, Int.reduceEq, dreduceIte, Int.reduceGT, Int.reducePow, Nat.reduceBNe, Int.reduceDiv, Int.reduceMul, reduceCtorEq, Int.reduceBEq, Nat.reduceBeqDiff, String.reduceNe, String.reduceBNe, Int.reduceNe, String.reduceBEq, Int.reduceSub, Int.reduceAbs, Int.reduceLT, Int.reduceNeg, Nat.reduceDiv, Int.reduceBNe, Int.reduceDvd, Int.reduceAdd, Nat.reduceBEq, Nat.reduceSucc, String.reduceEq, Int.reduceLE, Int.reduceMod, reduceIte, Int.reduceFDiv, Int.reduceFMod, startD, List.map_cons, List.map_nil, List.length_cons, List.length_nil, List.replicate_succ, List.replicate_zero, Nat.reduceAdd, Nat.reduceSub, Nat.reduceMul, List.cons_append, List.nil_append, List.getElem?_cons_zero, List.getElem?_cons_succ, List.set_cons_zero, List.set_cons_succ, ↓reduceIte, decide_eq_true_eq, Bool.false_eq_true, Int.natCast_inj, Int.toNat_natCast, Option.isSome_some, Option.isSome_none, Option.isNone_none, Option.isNone_some, Bool.or_eq_true, Bool.and_eq_true, Bool.not_eq_true', decide_eq_false_iff_not, Bool.not_true, Bool.not_false, beq_self_eq_true, Option.map_some, Option.bind_some, true_and, and_true, false_and, and_false, or_true, true_or, or_false, false_or, Nat.reduceLeDiff, Nat.reduceLT, Bool.false_and, Bool.true_and, Bool.and_false, Bool.and_true, Nat.zero_le, List.length_map, List.length_set, List.length_append, List.length_zipIdx, List.length_range, gt_iff_lt, not_true_eq_false, not_false_eq_true, eq_self, Bool.false_xor, Bool.true_xor, Bool.xor_false, List.not_mem_nil, decide_true, decide_false, $[$es:term],*])
theorem grind_ok {S : Sto} {k : Nat} {c : Int} {m : Int × Int} (h : S[k]? = some (ml m)) (hm : mOk m) (h1 : 0 < c) (h2 : c ≤ 1048576) : ∃ (i : Int) (m' : Int × Int), 0 ≤ i ∧ i < c ∧ mOk m' ∧ m__law_grind [.cell k, .int c] S = .ok (.int i) (S.set k (ml m')) := by
  obtain ⟨a, b⟩ := m
  obtain ⟨hb0, hb1⟩ := hm
  have h : S[k]? = some (.lst [.int a, .int b]) := h
  have hk : k < S.length := (List.getElem?_eq_some_iff.mp h).1
  by_cases ha : 0 < a
  · refine ⟨a % c, (a / c, b), Int.emod_nonneg _ (by omega), Int.emod_lt_of_pos _ h1, ⟨hb0, hb1⟩, ?_⟩
    apply fz_hold
    exists b__law_grind, h, ha, h1, cDiv_ok (i := a) h1 (by omega)
    exact fz_enS iInt _ (low_ints (l := [a / c, b]))
  · have hv0 : 0 ≤ (b * 6364136223846793005 + 1442695040888963407) % 18446744073709551616 := Int.emod_nonneg _ (by omega)
    have hv1 : (b * 6364136223846793005 + 1442695040888963407) % 18446744073709551616 < 18446744073709551616 := Int.emod_lt_of_pos _ (by omega)
    refine ⟨((b * 6364136223846793005 + 1442695040888963407) % 18446744073709551616) / 8589934592 % c, (a, (b * 6364136223846793005 + 1442695040888963407) % 18446744073709551616), Int.emod_nonneg _ (by omega), Int.emod_lt_of_pos _ h1, ⟨hv0, hv1⟩, ?_⟩
    apply fz_hold
    exists b__law_grind, h, ha, cMul_ok (i := b) (j := 6364136223846793005) (by omega) (by decide)
    generalize (b * 6364136223846793005 + 1442695040888963407) % 18446744073709551616 = v
    have g : (S.set k (Ob.lst [.int a, .int v]))[k]? = some (.lst [.int a, .int v]) := List.getElem?_set_self hk
    exists g, h1, cDiv_ok (i := v) (c := 8589934592) (by omega) (by omega)
    exact fz_enS iInt _ (low_ints (l := [a, v]))
theorem grind_at {S : Sto} {k : Nat} {c : Int} {m : Int × Int} {X : Re Dv} (hX : m__law_grind [.cell k, .int c] S = X) (h : S[k]? = some (ml m)) (hm : mOk m) (h1 : 0 < c) (h2 : c ≤ 1048576) : ∃ (i : Nat) (m' : Int × Int), (i : Int) < c ∧ mOk m' ∧ X = .ok (.int i) (S.set k (ml m')) := by
  obtain ⟨i, m', i0, i1, hm', e⟩ := grind_ok h hm h1 h2
  obtain ⟨i, rfl⟩ := Int.eq_ofNat_of_zero_le i0
  exact ⟨i, m', i1, hm', hX.symm.trans e⟩
end DL

namespace DL
open PySem PySem.Spec PyProof.Rows L2
local macro_rules | `(tactic| exists $es,*) => `(tactic| simp (disch := first | omega | assumption | (simp only [*, Option.isSome_some, List.length_map, List.length_set]; done) | (simp only [*, Option.isSome_some, List.length_map, List.length_set]; omega)) only [DL.fmi_int, DL.fmi_nm, DL.fmi_eR, DL.hold_seq, DL.hold_nx, DL.hold_nx0, DL.hold_ret, DL.hold_brk, DL.hold_ct, DL.hold_exc, DL.toR_nx, DL.toR_ret, DL.toR_exc, DL.bnd_ok, DL.bnd_exc, DL.toS_ok, DL.toS_exc, DL.opt_some, DL.condR_true, DL.condR_of, DL.condS_true, DL.condS_of, DL.condR_bind, DL.condR_toS, DL.condR_condR, DL.getV_some, DL.ap_eV, DL.ap_eC, DL.ap_e1, DL.ap_e2, DL.ap_aNil, DL.ap_aCons, DL.ap_eN, DL.ap_eCall, DL.ap_eCallK, DL.ap_eMth, DL.ap_eMth0, DL.ap_eMthK, DL.ap_eM, DL.asB_bl, DL.ap_tV, DL.ap_tAnd, DL.ap_tOr, DL.ap_tNot, DL.ap_tYes, DL.ap_eIf, DL.andK_bl, DL.orK_bl, DL.ap_eAnd, DL.ap_eOr, DL.ap_uNot, DL.ap_uNeg, DL.ap_xNone, DL.asO_int, DL.ap_xSome, DL.ap_eSl, DL.chK_int, DL.ap_eCh, DL.ap_sNil, DL.ap_sBrk, DL.ap_sCt, DL.ap_sExpr, DL.ap_sRet, DL.ap_sSet, DL.ap_sIf, DL.ap_sAsg, DL.parK_ok, DL.ap_sPar, DL.ap_sRaise, DL.ap_sFld, DL.ap_gN, DL.ap_gTp, DL.ap_gsNil, DL.gsK_some, DL.ap_gsCons, DL.gUl_lst, DL.ap_gUl, DL.ap_gIx, DL.ixK_cell, DL.ixK2_int, DL.putO_lst, DL.putO_0, DL.putO_1, DL.putO_2, DL.asL_lst, DL.asR_lst, DL.asR_ro, DL.asQ_lst, DL.asQ_ro, DL.asQ_tup, DL.asQ_ktup, DL.lstO_lst, DL.asL_cell, DL.asR_cell, DL.asQ_cell, DL.isL_def, DL.add_int, DL.oI_int, DL.oIc_int, DL.oB_int, DL.is_non, DL.is_int, DL.is_str, DL.is_lst, DL.is_tup, DL.is_cell, DL.isn_non, DL.isn_int, DL.isn_str, DL.isn_lst, DL.isn_tup, DL.isn_cell, DL.mkT_ok, DL.mkL_ok, DL.mkC_ok, DL.add_lst, DL.addK_ok, DL.addC_ap, DL.lenO_some, DL.len_cell, DL.len_lst, DL.len_tup, DL.len_ktup, DL.len_ro, DL.bLen_of, DL.bInt_int, DL.bInt_bl, DL.bAbs_int, DL.bMax_int, DL.bMin_int, DL.lstK_some, DL.lstCK_some, DL.tupK_some, DL.ktupK_some, DL.bList_of, DL.bListC_of, DL.bTuple_tup, DL.tuple_cell, DL.tuple_lst, DL.tuple_ro, DL.tuple_ktup, DL.bTuple_of, DL.bTupleK_of, DL.mApp_ap, DL.appO_lst, DL.mPopAt_ap, DL.mulL_2, DL.someR_ok, DL.ixO_some, DL.ix_cell, DL.ix_lst, DL.ix_tup, DL.ix_ktup, DL.ix_ro, DL.ix_of, DL.sl_tup, DL.sl_lst, DL.slK_some, DL.sl_cell, DL.cut_take, DL.cut_drop, DL.take_map, DL.drop_map, DL.atI_map, DL.atI_0, DL.atI_1, DL.atI_2, DL.atI_3, DL.wipe_nil, DL.wipe_cons, DL.noexc_k, DL.noexc_c, DL.ap_turn, DL.trnK_some, DL.ap_lcD, DL.ap_eLc, DL.ap_eLcC, DL.lcK_typed, DL.lcT_ok, DL.lcT_cond, DL.always_is, DL.ite_ok, DL.ite_int, DL.ite_bl, DL.fm_int, DL.fm_bl, DL.fm_str, DL.fm_if, DL.ap_iSeq, DL.it_lst, DL.it_ro, DL.it_tup, DL.it_ktup, DL.itO_lst, DL.it_cell, DL.any_lst, DL.all_lst, DL.any_map', DL.all_map', DL.push_len, DL.push_push, DL.get_0, DL.get_1, DL.get_2, DL.set_0, DL.set_1, DL.set_2, DL.set_len, DL.set_set, DL.get_app, DL.set_app, DL.get_aft, DL.get_aft0, DL.set_aft, DL.set_aft0, DL.str_eq, DL.int_eq, DL.ints_eq, DL.intsT_eq, DL.id_is, DL.eq_nn, DL.eq_nilI, DL.eq_nilN, DL.sum_lst, DL.set_ints, DL.app_ints, DL.ite_true', DL.ite_false', DL.pickO_some, DL.pick_nil, DL.pick_cons, DL.fzR_py, DL.fz_non, DL.fz_nonT, DL.fz_int, DL.fz_intT, DL.fz_bl, DL.fz_blT, DL.fz_ints, DL.fz_intsT, DL.fz_tints, DL.fz_tintsT, DL.nxt_nx, DL.nxt_ct, DL.nxt_brk, DL.nxt_ret, DL.nxt_exc, DL.ap_iRg1, DL.ap_iRg2, DL.rgK_ok, DL.rgK2_ok, DL.ap_iEn, DL.enK_lst, DL.enK_ro, DL.ap_iZp, DL.zpK_tup, DL.zpK_lst, DL.turn_eI, DL.turn_eP, DL.len_str, DL.it_str, DL.in_ch, DL.app_map, DL.it_eR, DL.ix_eR0, DL.ix_eR1, DL.ix_eR2, DL.eq_nm, DL.eq_eR, DL.is_eR, DL.isn_eR, DL.eq_nilR, DL.rl_len, DL.atI_ix, DL.it_dI, DL.map_dI, DL.fm_eR, DL.fm_nm, DL.tup3_eR, DL.app_rs, DL.map_id'', DL.fm_dI, DL.tup_eR, DL.eta_nm, DL.eta_eR, DL.eta_dI, DL.bk_kinds, DL.bk_rules, DL.bk_of, DL.fz_nms, DL.fz_rs, DL.fz_bk, DL.kinds_ok, DL.rules_ok, DL.blen_ok, DL.prp_bk, DL.ins_bk1, DL.in_ktup, DL.in_rtup, DL.in_rlst, DL.eq_ktup, DL.eq_rtup, DL.eq_rlst, DL.eq_nlst, DL.isi_bk, DL.beq_ok, DL.own_bk, DL.wantB_bl, DL.lenO_bk, DL.isn_eCOL, DL.is_eCOL, DL.is_eCOT, DL.isn_eCOT, DL.it_eIT, DL.is_eIT, DL.repr_lst, DL.repr_tup, DL.repr_cell, DL.repr_eIL, DL.reprT_some, DL.py_int, DL.py_str, DL.py_bl, DL.py_non, DL.py_nm, DL.py_eR, DL.py_eIL, DL.py_lst', DL.py_tup', DL.pys_nil, DL.pys_cons, DL.pys_int, DL.pys_nm, DL.pys_eR, DL.pys_eIL, DL.py_cell', DL.cellPy_lst, DL.pyp_int, DL.pyp_nm, DL.pyp_eR, DL.pyp_eIL, reduceDIte, Nat.reduceEqDiff, dreduceDIte, Int.reduceNegSucc, Nat.reduceOr, Nat.reducePow, Nat.reduceGT, Nat.reduceBneDiff, Nat.reduceSubDiff, Nat.reduceMod, Int.reduceGE, Int.reduceToNat, Int.reduceEq, dreduceIte, Int.reduceGT, Int.reducePow, Nat.reduceBNe, Int.reduceDiv, Int.reduceMul, reduceCtorEq, Int.reduceBEq, Nat.reduceBeqDiff, String.reduceNe, String.reduceBNe, Int.reduceNe, String.reduceBEq, Int.reduceSub, Int.reduceAbs, Int.reduceLT, Int.reduceNeg, Nat.reduceDiv, Int.reduceBNe, Int.reduceDvd, Int.reduceAdd, Nat.reduceBEq, Nat.reduceSucc, String.reduceEq, Int.reduceLE, Int.reduceMod, reduceIte, Int.reduceFDiv, Int.reduceFMod, startD, List.map_cons, List.map_nil, List.length_cons, List.length_nil, List.replicate_succ, List.replicate_zero, Nat.reduceAdd, Nat.reduceSub, Nat.reduceMul, List.cons_append, List.nil_append, List.getElem?_cons_zero, List.getElem?_cons_succ, List.set_cons_zero, List.set_cons_succ, ↓reduceIte, decide_eq_true_eq, Bool.false_eq_true, Int.natCast_inj, Int.toNat_natCast, Option.isSome_some, Option.isSome_none, Option.isNone_none, Option.isNone_some, Bool.or_eq_true, Bool.and_eq_true, Bool.not_eq_true', decide_eq_false_iff_not, Bool.not_true, Bool.not_false, beq_self_eq_true, Option.map_some, Option.bind_some, true_and, and_true, false_and, and_false, or_true, true_or, or_false, false_or, Nat.reduceLeDiff, Nat.reduceLT, Bool.false_and, Bool.true_and, Bool.and_false, Bool.and_true, Nat.zero_le, List.length_map, List.length_set, List.length_append, List.length_zipIdx, List.length_range, gt_iff_lt, not_true_eq_false, not_false_eq_true, eq_self, Bool.false_xor, Bool.true_xor, Bool.xor_false, List.not_mem_nil, decide_true, decide_false, $[$es:term],*])
theorem mill_ok (ns : List Int) (hn : ns.length ≤ 63) (p : Nat) (hp : p < 64) (S : Sto) : ∃ m, mOk m ∧ m__law_mill [.ro (ns.map .int), .int p] S = .ok (.cell S.length) (S ++ [ml m]) := by
  have fin : ∀ c a : Int, mOk (a, 40692 * ((p : Int) + 1) + (if c < 0 then -c else c) % 1000000000000037) := fun c a => by
    have h0 : 0 ≤ (if c < 0 then -c else c) % 1000000000000037 := Int.emod_nonneg _ (by omega)
    have h1 : (if c < 0 then -c else c) % 1000000000000037 < 1000000000000037 := Int.emod_lt_of_pos _ (by omega)
    exact ⟨by show 0 ≤ _; omega, by show _ < _; omega⟩
  have h : Hold (b__law_mill (startD 4 [.ro (ns.map .int), .int p]) S) [] (fun q => ∃ m, mOk m ∧ q.toR = .ok (.cell S.length) (S ++ [ml m])) := by
    exists b__law_mill
    have hm := cMul_ok (i := 40692) (j := (p : Int) + 1) (by decide) (by omega)
    have h10 : cPow 10 12 = true := by decide
    by_cases hp : (p : Int) < ns.length
    · exists hp
      generalize nth' ns p = c
      have hd := cDiv_ok (i := c) (c := 2) (by omega) (by omega)
      by_cases h : 1000000000000 < c
      · exists h10, h, hd, hm, (by decide : (0 : Int) < 1000000000000037)
        exact ⟨_, fin c (c / 2), rfl⟩
      · exists h10, h, hm, (by decide : (0 : Int) < 1000000000000037)
        exact ⟨_, fin c 0, rfl⟩
    · exists hp
      exists h10, (by decide : ¬ (1000000000000 : Int) < 0), hm, (by decide : (0 : Int) < 1000000000000037)
      exact ⟨_, fin 0 0, rfl⟩
  exact h
end DL

namespace DL
open PySem PySem.Spec PyProof.Rows L2
def tribe (i : Nat) : List Nm := match i with
  | 0 => [⟨"a", by decide +kernel⟩, ⟨"b", by decide +kernel⟩, ⟨"c", by decide +kernel⟩, ⟨"d", by decide +kernel⟩, ⟨"e", by decide +kernel⟩, ⟨"f", by decide +kernel⟩, ⟨"g", by decide +kernel⟩, ⟨"h", by decide +kernel⟩]
  | 1 => [⟨"red", by decide +kernel⟩, ⟨"blue", by decide +kernel⟩, ⟨"re", by decide +kernel⟩, ⟨"bluer", by decide +kernel⟩, ⟨"r", by decide +kernel⟩, ⟨"b", by decide +kernel⟩, ⟨"redred", by decide +kernel⟩, ⟨"blu", by decide +kernel⟩]
  | _ => [⟨"kind", by decide +kernel⟩, ⟨"kinds", by decide +kernel⟩, ⟨"sees", by decide +kernel⟩, ⟨"seesaw", by decide +kernel⟩, ⟨"ab", by decide +kernel⟩, ⟨"ba", by decide +kernel⟩, ⟨"abcdefgh", by decide +kernel⟩, ⟨"abcdefgz", by decide +kernel⟩]
theorem tribe_len (i : Nat) : (tribe i).length = 8 := by
  unfold tribe
  split <;> rfl
theorem tribe_ok (i : Nat) : (tribe i).Nodup ∧ ∀ x ∈ tribe i, nmOk x.1 = true := by
  unfold tribe
  split
  · decide +kernel
  · decide +kernel
  · decide +kernel
/-- kinds as they are drawn -/
structure Kin (ks : List Nm) : Prop where
  nd : ks.Nodup
  ok : ∀ x ∈ ks, nmOk x.1 = true
  l8 : ks.length ≤ 8
theorem rows_at {S : Sto} {i : Nat} (h : i < 3) : ∀ a b c : List Dv, a = (tribe 0).map eN' → b = (tribe 1).map eN' → c = (tribe 2).map eN' → ixO i S (some [.lst a, .lst b, .lst c]) = .ok (.lst ((tribe i).map eN')) S := by
  rintro a b c rfl rfl rfl
  match i, h with
  | 0, _ => rfl
  | 1, _ => rfl
  | 2, _ => rfl
theorem get_mill {S T : Sto} {k : Nat} {m : Ob} (h : k < S.length) : (S.set k m ++ T)[k]? = some m := by
  rw [List.getElem?_append_left (by rw [List.length_set]; exact h), List.getElem?_set_self h]
theorem get_after {S : Sto} {k : Nat} {m a : Ob} {T : Sto} {n : Nat} : (S.set k m ++ T)[S.length + n]? = T[n]? := by
  rw [List.getElem?_append_right (by rw [List.length_set]; omega), List.length_set, Nat.add_sub_cancel_left]
theorem t_0 : [Dv.str "a", .str "b", .str "c", .str "d", .str "e", .str "f", .str "g", .str "h"] = (tribe 0).map eN' := rfl
theorem t_1 : [Dv.str "red", .str "blue", .str "re", .str "bluer", .str "r", .str "b", .str "redred", .str "blu"] = (tribe 1).map eN' := rfl
theorem t_2 : [Dv.str "kind", .str "kinds", .str "sees", .str "seesaw", .str "ab", .str "ba", .str "abcdefgh", .str "abcdefgz"] = (tribe 2).map eN' := rfl
theorem perm_erase {α : Type} {y : α} : ∀ {l : List α} {i : Nat}, l[i]? = some y → l.Perm (y :: l.eraseIdx i)
  | a :: r, 0, h => by
    rw [List.getElem?_cons_zero] at h
    cases h
    exact .refl _
  | a :: r, i + 1, h => by
    rw [List.getElem?_cons_succ] at h
    exact ((perm_erase h).cons a).trans (.swap ..)
/-- one more name is drawn -/
theorem perm_pop {α : Type} {l f t : List α} {i : Nat} {y : α} (hp : (f ++ l).Perm t) (h : l[i]? = some y) : ((f ++ [y]) ++ l.eraseIdx i).Perm t := by
  refine List.Perm.trans ?_ hp
  rw [List.append_assoc]
  exact (List.Perm.append_left f (perm_erase h).symm)
local macro_rules | `(tactic| exists $es,*) => `(tactic| simp (disch := first | omega | assumption | (simp only [*, Option.isSome_some, List.length_map, List.length_set]; done) | (simp only [*, Option.isSome_some, List.length_map, List.length_set]; omega)) only [DL.fmi_int, DL.fmi_nm, DL.fmi_eR, DL.hold_seq, DL.hold_nx, DL.hold_nx0, DL.hold_ret, DL.hold_brk, DL.hold_ct, DL.hold_exc, DL.toR_nx, DL.toR_ret, DL.toR_exc, DL.bnd_ok, DL.bnd_exc, DL.toS_ok, DL.toS_exc, DL.opt_some, DL.condR_true, DL.condR_of, DL.condS_true, DL.condS_of, DL.condR_bind, DL.condR_toS, DL.condR_condR, DL.getV_some, DL.ap_eV, DL.ap_eC, DL.ap_e1, DL.ap_e2, DL.ap_aNil, DL.ap_aCons, DL.ap_eN, DL.ap_eCall, DL.ap_eCallK, DL.ap_eMth, DL.ap_eMth0, DL.ap_eMthK, DL.ap_eM, DL.asB_bl, DL.ap_tV, DL.ap_tAnd, DL.ap_tOr, DL.ap_tNot, DL.ap_tYes, DL.ap_eIf, DL.andK_bl, DL.orK_bl, DL.ap_eAnd, DL.ap_eOr, DL.ap_uNot, DL.ap_uNeg, DL.ap_xNone, DL.asO_int, DL.ap_xSome, DL.ap_eSl, DL.chK_int, DL.ap_eCh, DL.ap_sNil, DL.ap_sBrk, DL.ap_sCt, DL.ap_sExpr, DL.ap_sRet, DL.ap_sSet, DL.ap_sIf, DL.ap_sAsg, DL.parK_ok, DL.ap_sPar, DL.ap_sRaise, DL.ap_sFld, DL.ap_gN, DL.ap_gTp, DL.ap_gsNil, DL.gsK_some, DL.ap_gsCons, DL.gUl_lst, DL.ap_gUl, DL.ap_gIx, DL.ixK_cell, DL.ixK2_int, DL.putO_lst, DL.putO_0, DL.putO_1, DL.putO_2, DL.asL_lst, DL.asR_lst, DL.asR_ro, DL.asQ_lst, DL.asQ_ro, DL.asQ_tup, DL.asQ_ktup, DL.lstO_lst, DL.asL_cell, DL.asR_cell, DL.asQ_cell, DL.isL_def, DL.add_int, DL.oI_int, DL.oIc_int, DL.oB_int, DL.is_non, DL.is_int, DL.is_str, DL.is_lst, DL.is_tup, DL.is_cell, DL.isn_non, DL.isn_int, DL.isn_str, DL.isn_lst, DL.isn_tup, DL.isn_cell, DL.mkT_ok, DL.mkL_ok, DL.mkC_ok, DL.add_lst, DL.addK_ok, DL.addC_ap, DL.lenO_some, DL.len_cell, DL.len_lst, DL.len_tup, DL.len_ktup, DL.len_ro, DL.bLen_of, DL.bInt_int, DL.bInt_bl, DL.bAbs_int, DL.bMax_int, DL.bMin_int, DL.lstK_some, DL.lstCK_some, DL.tupK_some, DL.ktupK_some, DL.bList_of, DL.bListC_of, DL.bTuple_tup, DL.tuple_cell, DL.tuple_lst, DL.tuple_ro, DL.tuple_ktup, DL.bTuple_of, DL.bTupleK_of, DL.mApp_ap, DL.appO_lst, DL.mPopAt_ap, DL.mulL_2, DL.someR_ok, DL.ixO_some, DL.ix_cell, DL.ix_lst, DL.ix_tup, DL.ix_ktup, DL.ix_ro, DL.ix_of, DL.sl_tup, DL.sl_lst, DL.slK_some, DL.sl_cell, DL.cut_take, DL.cut_drop, DL.take_map, DL.drop_map, DL.atI_map, DL.atI_0, DL.atI_1, DL.atI_2, DL.atI_3, DL.wipe_nil, DL.wipe_cons, DL.noexc_k, DL.noexc_c, DL.ap_turn, DL.trnK_some, DL.ap_lcD, DL.ap_eLc, DL.ap_eLcC, DL.lcK_typed, DL.lcT_ok, DL.lcT_cond, DL.always_is, DL.ite_ok, DL.ite_int, DL.ite_bl, DL.fm_int, DL.fm_bl, DL.fm_str, DL.fm_if, DL.ap_iSeq, DL.it_lst, DL.it_ro, DL.it_tup, DL.it_ktup, DL.itO_lst, DL.it_cell, DL.any_lst, DL.all_lst, DL.any_map', DL.all_map', DL.push_len, DL.push_push, DL.get_0, DL.get_1, DL.get_2, DL.set_0, DL.set_1, DL.set_2, DL.set_len, DL.set_set, DL.get_app, DL.set_app, DL.get_aft, DL.get_aft0, DL.set_aft, DL.set_aft0, DL.str_eq, DL.int_eq, DL.ints_eq, DL.intsT_eq, DL.id_is, DL.eq_nn, DL.eq_nilI, DL.eq_nilN, DL.sum_lst, DL.set_ints, DL.app_ints, DL.ite_true', DL.ite_false', DL.pickO_some, DL.pick_nil, DL.pick_cons, DL.fzR_py, DL.fz_non, DL.fz_nonT, DL.fz_int, DL.fz_intT, DL.fz_bl, DL.fz_blT, DL.fz_ints, DL.fz_intsT, DL.fz_tints, DL.fz_tintsT, DL.nxt_nx, DL.nxt_ct, DL.nxt_brk, DL.nxt_ret, DL.nxt_exc, DL.ap_iRg1, DL.ap_iRg2, DL.rgK_ok, DL.rgK2_ok, DL.ap_iEn, DL.enK_lst, DL.enK_ro, DL.ap_iZp, DL.zpK_tup, DL.zpK_lst, DL.turn_eI, DL.turn_eP, DL.len_str, DL.it_str, DL.in_ch, DL.app_map, DL.it_eR, DL.ix_eR0, DL.ix_eR1, DL.ix_eR2, DL.eq_nm, DL.eq_eR, DL.is_eR, DL.isn_eR, DL.eq_nilR, DL.rl_len, DL.atI_ix, DL.it_dI, DL.map_dI, DL.fm_eR, DL.fm_nm, DL.tup3_eR, DL.app_rs, DL.map_id'', DL.fm_dI, DL.tup_eR, DL.eta_nm, DL.eta_eR, DL.eta_dI, DL.bk_kinds, DL.bk_rules, DL.bk_of, DL.fz_nms, DL.fz_rs, DL.fz_bk, DL.kinds_ok, DL.rules_ok, DL.blen_ok, DL.prp_bk, DL.ins_bk1, DL.in_ktup, DL.in_rtup, DL.in_rlst, DL.eq_ktup, DL.eq_rtup, DL.eq_rlst, DL.eq_nlst, DL.isi_bk, DL.beq_ok, DL.own_bk, DL.wantB_bl, DL.lenO_bk, DL.isn_eCOL, DL.is_eCOL, DL.is_eCOT, DL.isn_eCOT, DL.it_eIT, DL.is_eIT, DL.repr_lst, DL.repr_tup, DL.repr_cell, DL.repr_eIL, DL.reprT_some, DL.py_int, DL.py_str, DL.py_bl, DL.py_non, DL.py_nm, DL.py_eR, DL.py_eIL, DL.py_lst', DL.py_tup', DL.pys_nil, DL.pys_cons, DL.pys_int, DL.pys_nm, DL.pys_eR, DL.pys_eIL, DL.py_cell', DL.cellPy_lst, DL.pyp_int, DL.pyp_nm, DL.pyp_eR, DL.pyp_eIL, reduceDIte, Nat.reduceEqDiff, dreduceDIte, Int.reduceNegSucc, Nat.reduceOr, Nat.reducePow, Nat.reduceGT, Nat.reduceBneDiff, Nat.reduceSubDiff, Nat.reduceMod, Int.reduceGE, Int.reduceToNat, Int.reduceEq, dreduceIte, Int.reduceGT, Int.reducePow, Nat.reduceBNe, Int.reduceDiv, Int.reduceMul, reduceCtorEq, Int.reduceBEq, Nat.reduceBeqDiff, String.reduceNe, String.reduceBNe, Int.reduceNe, String.reduceBEq, Int.reduceSub, Int.reduceAbs, Int.reduceLT, Int.reduceNeg, Nat.reduceDiv, Int.reduceBNe, Int.reduceDvd, Int.reduceAdd, Nat.reduceBEq, Nat.reduceSucc, String.reduceEq, Int.reduceLE, Int.reduceMod, reduceIte, Int.reduceFDiv, Int.reduceFMod, startD, List.map_cons, List.map_nil, List.length_cons, List.length_nil, List.replicate_succ, List.replicate_zero, Nat.reduceAdd, Nat.reduceSub, Nat.reduceMul, List.cons_append, List.nil_append, List.getElem?_cons_zero, List.getElem?_cons_succ, List.set_cons_zero, List.set_cons_succ, ↓reduceIte, decide_eq_true_eq, Bool.false_eq_true, Int.natCast_inj, Int.toNat_natCast, Option.isSome_some, Option.isSome_none, Option.isNone_none, Option.isNone_some, Bool.or_eq_true, Bool.and_eq_true, Bool.not_eq_true', decide_eq_false_iff_not, Bool.not_true, Bool.not_false, beq_self_eq_true, Option.map_some, Option.bind_some, true_and, and_true, false_and, and_false, or_true, true_or, or_false, false_or, Nat.reduceLeDiff, Nat.reduceLT, Bool.false_and, Bool.true_and, Bool.and_false, Bool.and_true, Nat.zero_le, List.length_map, List.length_set, List.length_append, List.length_zipIdx, List.length_range, gt_iff_lt, not_true_eq_false, not_false_eq_true, eq_self, Bool.false_xor, Bool.true_xor, Bool.xor_false, List.not_mem_nil, decide_true, decide_false, $[$es:term],*])
theorem tribes_ok {S : Sto} {k n : Nat} {m : Int × Int} (h : S[k]? = some (ml m)) (hm : mOk m) (h8 : n ≤ 8) : ∃ (ks : List Nm) (m' : Int × Int), ks.length = n ∧ Kin ks ∧ mOk m' ∧ m__law_tribes [.cell k, .int n] S = .ok (.lst (ks.map eN')) (S.set k (ml m')) := by
  have hk : k < S.length := (List.getElem?_eq_some_iff.mp h).1
  have run : Hold (b__law_tribes (startD 6 [.cell k, .int n]) S) [] (fun q => ∃ (ks : List Nm) (m' : Int × Int), ks.length = n ∧ Kin ks ∧ mOk m' ∧ fzR S q.toR = .ok (.lst (ks.map eN')) (S.set k (ml m'))) := by
    exists b__law_tribes, t_0, t_1, t_2, tribe_len
    obtain ⟨i, m1, i0, i3, hm1, e1⟩ := grind_ok (S := S ++ [.lst [.lst ((tribe 0).map eN'), .lst ((tribe 1).map eN'), .lst ((tribe 2).map eN')]]) (k := k) (c := 3) (m := m) (by rw [get_old hk]; exact h) hm (by omega) (by omega)
    obtain ⟨i, rfl⟩ := Int.eq_ofNat_of_zero_le i0
    have hi : i < 3 := by omega
    rw [e1, set_old hk]
    have r1 := fun S => rows_at (S := S) hi _ _ _ rfl rfl rfl
    exists r1
    refine for_hold (enc := fun (i : Nat) => Dv.int (i : Int)) (xs := List.range n) (chk := always) (S1 := S.set k (ml m1) ++ [.lst [.lst ((tribe 0).map eN'), .lst ((tribe 1).map eN'), .lst ((tribe 2).map eN')], .lst ((tribe i).map eN'), .lst (([] : List Nm).map eN')])
      (fun r ρ S' => ∃ (left found : List Nm) (mm : Int × Int) (x : Option Dv), S' = S.set k (ml mm) ++ [.lst [.lst ((tribe 0).map eN'), .lst ((tribe 1).map eN'), .lst ((tribe 2).map eN')], .lst (left.map eN'), .lst (found.map eN')] ∧ ρ = [some (.cell k), some (.int n), some (.cell S.length), some (.cell (S.length + 1)), some (.cell (S.length + 2)), x] ∧ mOk mm ∧ (found ++ left).Perm (tribe i) ∧ found.length + r.length = n) ?_ ?_ ?_ ?_ ?_
    · exists id_is
    · trivial
    · exact ⟨tribe i, [], m1, none, rfl, rfl, hm1, .refl _, by simp⟩
    · rintro x r ρ S' _ ⟨left, found, mm, y, rfl, rfl, hmm, hp, hl⟩
      rw [List.length_cons] at hl
      have hlen := hp.length_eq
      rw [List.length_append, tribe_len] at hlen
      exists id_is
      obtain ⟨j, m2, j0, j3, hm2, e2⟩ := grind_ok (S := S.set k (ml mm) ++ [.lst [.lst ((tribe 0).map eN'), .lst ((tribe 1).map eN'), .lst ((tribe 2).map eN')], .lst (left.map eN'), .lst (found.map eN')]) (k := k) (c := left.length) (m := mm) (get_mill hk) hmm (by omega) (by omega)
      obtain ⟨j, rfl⟩ := Int.eq_ofNat_of_zero_le j0
      have hj : j < left.length := by omega
      obtain ⟨z, hz⟩ : ∃ z, left[j]? = some z := ⟨left[j], List.getElem?_eq_getElem hj⟩
      rw [e2, set_old (by rw [List.length_set]; exact hk), set_set]
      exists popO_map hz
      exact ⟨left.eraseIdx j, found ++ [z], m2, some (.int x), rfl, rfl, hm2, perm_pop hp hz, by rw [List.length_append, List.length_singleton]; omega⟩
    · rintro ρ S' ⟨left, found, mm, y, rfl, rfl, hmm, hp, hl⟩
      have hf : frz (S.set k (ml mm) ++ [Ob.lst [.lst ((tribe 0).map eN'), .lst ((tribe 1).map eN'), .lst ((tribe 2).map eN')], .lst (left.map eN'), .lst (found.map eN')]) S.length 8 (.cell (S.length + 2)) = .lst (found.map eN') := by
        unfold frz
        rw [if_pos (by omega), gets_2]
        show Dv.lst ((found.map eN').map (frz _ _ 7)) = _
        rw [frzs_py 7 (pyPs_en (f := eN') found)]
      have hnd := hp.nodup_iff.mpr (tribe_ok i).1
      rw [List.length_nil, Nat.add_zero] at hl
      exists id_is
      exact ⟨found, mm, hl, ⟨(List.nodup_append.mp hnd).1, fun x hx => (tribe_ok i).2 x (hp.mem_iff.mp (List.mem_append_left _ hx)), by omega⟩, hmm, fzR_set (low_ints (l := [mm.1, mm.2])) hf (en_low (iL eN') _ found)⟩
  obtain ⟨ks, m', h1, h2, h3, h4⟩ := run
  exact ⟨ks, m', h1, h2, h3, h4⟩
end DL

namespace DL
open PySem PySem.Spec PyProof.Rows L2
structure Rul (ks : List Nm) (rs : List Ru) : Prop where
  nd : rs.Nodup
  gd : ∀ r ∈ rs, gd ks r
theorem new_rules {ks : List Nm} {who whom : Nm} (hk : ks.Nodup) (h1 : who ∈ ks) (h2 : whom ∈ ks) : Rul ks ((ks.filter fun x => decide ¬x = who).map fun x => (who, whom, x)) := by
  constructor
  · exact (List.Pairwise.filter _ hk).map _ fun a b h z => h (by cases z; rfl)
  · intro r hr
    obtain ⟨x, hx, rfl⟩ := List.mem_map.mp hr
    obtain ⟨g1, g2⟩ := List.mem_filter.mp hx
    refine ⟨?_, of_decide_eq_true g2⟩
    intro n hn
    simp only [rl, List.mem_cons, List.not_mem_nil, or_false] at hn
    rcases hn with rfl | rfl | rfl
    · exact h1
    · exact h2
    · exact g1
theorem Rul.app {ks : List Nm} {a b : List Ru} (ha : Rul ks a) (hb : Rul ks b) (hd : ∀ x ∈ a, x ∉ b) : Rul ks (a ++ b) := by
  constructor
  · rw [List.nodup_append]
    exact ⟨ha.nd, hb.nd, fun x hx y hy e => hd x hx (e ▸ hy)⟩
  · intro r hr
    rcases List.mem_append.mp hr with h | h
    · exact ha.gd r h
    · exact hb.gd r h
local macro_rules | `(tactic| exists $es,*) => `(tactic| simp (disch := first | omega | assumption | (simp only [*, Option.isSome_some, List.length_map, List.length_set]; done) | (simp only [*, Option.isSome_some, List.length_map, List.length_set]; omega)) only [DL.fmi_int, DL.fmi_nm, DL.fmi_eR, DL.hold_seq, DL.hold_nx, DL.hold_nx0, DL.hold_ret, DL.hold_brk, DL.hold_ct, DL.hold_exc, DL.toR_nx, DL.toR_ret, DL.toR_exc, DL.bnd_ok, DL.bnd_exc, DL.toS_ok, DL.toS_exc, DL.opt_some, DL.condR_true, DL.condR_of, DL.condS_true, DL.condS_of, DL.condR_bind, DL.condR_toS, DL.condR_condR, DL.getV_some, DL.ap_eV, DL.ap_eC, DL.ap_e1, DL.ap_e2, DL.ap_aNil, DL.ap_aCons, DL.ap_eN, DL.ap_eCall, DL.ap_eCallK, DL.ap_eMth, DL.ap_eMth0, DL.ap_eMthK, DL.ap_eM, DL.asB_bl, DL.ap_tV, DL.ap_tAnd, DL.ap_tOr, DL.ap_tNot, DL.ap_tYes, DL.ap_eIf, DL.andK_bl, DL.orK_bl, DL.ap_eAnd, DL.ap_eOr, DL.ap_uNot, DL.ap_uNeg, DL.ap_xNone, DL.asO_int, DL.ap_xSome, DL.ap_eSl, DL.chK_int, DL.ap_eCh, DL.ap_sNil, DL.ap_sBrk, DL.ap_sCt, DL.ap_sExpr, DL.ap_sRet, DL.ap_sSet, DL.ap_sIf, DL.ap_sAsg, DL.parK_ok, DL.ap_sPar, DL.ap_sRaise, DL.ap_sFld, DL.ap_gN, DL.ap_gTp, DL.ap_gsNil, DL.gsK_some, DL.ap_gsCons, DL.gUl_lst, DL.ap_gUl, DL.ap_gIx, DL.ixK_cell, DL.ixK2_int, DL.putO_lst, DL.putO_0, DL.putO_1, DL.putO_2, DL.asL_lst, DL.asR_lst, DL.asR_ro, DL.asQ_lst, DL.asQ_ro, DL.asQ_tup, DL.asQ_ktup, DL.lstO_lst, DL.asL_cell, DL.asR_cell, DL.asQ_cell, DL.isL_def, DL.add_int, DL.oI_int, DL.oIc_int, DL.oB_int, DL.is_non, DL.is_int, DL.is_str, DL.is_lst, DL.is_tup, DL.is_cell, DL.isn_non, DL.isn_int, DL.isn_str, DL.isn_lst, DL.isn_tup, DL.isn_cell, DL.mkT_ok, DL.mkL_ok, DL.mkC_ok, DL.add_lst, DL.addK_ok, DL.addC_ap, DL.lenO_some, DL.len_cell, DL.len_lst, DL.len_tup, DL.len_ktup, DL.len_ro, DL.bLen_of, DL.bInt_int, DL.bInt_bl, DL.bAbs_int, DL.bMax_int, DL.bMin_int, DL.lstK_some, DL.lstCK_some, DL.tupK_some, DL.ktupK_some, DL.bList_of, DL.bListC_of, DL.bTuple_tup, DL.tuple_cell, DL.tuple_lst, DL.tuple_ro, DL.tuple_ktup, DL.bTuple_of, DL.bTupleK_of, DL.mApp_ap, DL.appO_lst, DL.mPopAt_ap, DL.mulL_2, DL.someR_ok, DL.ixO_some, DL.ix_cell, DL.ix_lst, DL.ix_tup, DL.ix_ktup, DL.ix_ro, DL.ix_of, DL.sl_tup, DL.sl_lst, DL.slK_some, DL.sl_cell, DL.cut_take, DL.cut_drop, DL.take_map, DL.drop_map, DL.atI_map, DL.atI_0, DL.atI_1, DL.atI_2, DL.atI_3, DL.wipe_nil, DL.wipe_cons, DL.noexc_k, DL.noexc_c, DL.ap_turn, DL.trnK_some, DL.ap_lcD, DL.ap_eLc, DL.ap_eLcC, DL.lcK_typed, DL.lcT_ok, DL.lcT_cond, DL.always_is, DL.ite_ok, DL.ite_int, DL.ite_bl, DL.fm_int, DL.fm_bl, DL.fm_str, DL.fm_if, DL.ap_iSeq, DL.it_lst, DL.it_ro, DL.it_tup, DL.it_ktup, DL.itO_lst, DL.it_cell, DL.any_lst, DL.all_lst, DL.any_map', DL.all_map', DL.push_len, DL.push_push, DL.get_0, DL.get_1, DL.get_2, DL.set_0, DL.set_1, DL.set_2, DL.set_len, DL.set_set, DL.get_app, DL.set_app, DL.get_aft, DL.get_aft0, DL.set_aft, DL.set_aft0, DL.str_eq, DL.int_eq, DL.ints_eq, DL.intsT_eq, DL.id_is, DL.eq_nn, DL.eq_nilI, DL.eq_nilN, DL.sum_lst, DL.set_ints, DL.app_ints, DL.ite_true', DL.ite_false', DL.pickO_some, DL.pick_nil, DL.pick_cons, DL.fzR_py, DL.fz_non, DL.fz_nonT, DL.fz_int, DL.fz_intT, DL.fz_bl, DL.fz_blT, DL.fz_ints, DL.fz_intsT, DL.fz_tints, DL.fz_tintsT, DL.nxt_nx, DL.nxt_ct, DL.nxt_brk, DL.nxt_ret, DL.nxt_exc, DL.ap_iRg1, DL.ap_iRg2, DL.rgK_ok, DL.rgK2_ok, DL.ap_iEn, DL.enK_lst, DL.enK_ro, DL.ap_iZp, DL.zpK_tup, DL.zpK_lst, DL.turn_eI, DL.turn_eP, DL.len_str, DL.it_str, DL.in_ch, DL.app_map, DL.it_eR, DL.ix_eR0, DL.ix_eR1, DL.ix_eR2, DL.eq_nm, DL.eq_eR, DL.is_eR, DL.isn_eR, DL.eq_nilR, DL.rl_len, DL.atI_ix, DL.it_dI, DL.map_dI, DL.fm_eR, DL.fm_nm, DL.tup3_eR, DL.app_rs, DL.map_id'', DL.fm_dI, DL.tup_eR, DL.eta_nm, DL.eta_eR, DL.eta_dI, DL.bk_kinds, DL.bk_rules, DL.bk_of, DL.fz_nms, DL.fz_rs, DL.fz_bk, DL.kinds_ok, DL.rules_ok, DL.blen_ok, DL.prp_bk, DL.ins_bk1, DL.in_ktup, DL.in_rtup, DL.in_rlst, DL.eq_ktup, DL.eq_rtup, DL.eq_rlst, DL.eq_nlst, DL.isi_bk, DL.beq_ok, DL.own_bk, DL.wantB_bl, DL.lenO_bk, DL.isn_eCOL, DL.is_eCOL, DL.is_eCOT, DL.isn_eCOT, DL.it_eIT, DL.is_eIT, DL.repr_lst, DL.repr_tup, DL.repr_cell, DL.repr_eIL, DL.reprT_some, DL.py_int, DL.py_str, DL.py_bl, DL.py_non, DL.py_nm, DL.py_eR, DL.py_eIL, DL.py_lst', DL.py_tup', DL.pys_nil, DL.pys_cons, DL.pys_int, DL.pys_nm, DL.pys_eR, DL.pys_eIL, DL.py_cell', DL.cellPy_lst, DL.pyp_int, DL.pyp_nm, DL.pyp_eR, DL.pyp_eIL, reduceDIte, Nat.reduceEqDiff, dreduceDIte, Int.reduceNegSucc, Nat.reduceOr, Nat.reducePow, Nat.reduceGT, Nat.reduceBneDiff, Nat.reduceSubDiff, Nat.reduceMod, Int.reduceGE, Int.reduceToNat, Int.reduceEq, dreduceIte, Int.reduceGT, Int.reducePow, Nat.reduceBNe, Int.reduceDiv, Int.reduceMul, reduceCtorEq, Int.reduceBEq, Nat.reduceBeqDiff, String.reduceNe, String.reduceBNe, Int.reduceNe, String.reduceBEq, Int.reduceSub, Int.reduceAbs, Int.reduceLT, Int.reduceNeg, Nat.reduceDiv, Int.reduceBNe, Int.reduceDvd, Int.reduceAdd, Nat.reduceBEq, Nat.reduceSucc, String.reduceEq, Int.reduceLE, Int.reduceMod, reduceIte, Int.reduceFDiv, Int.reduceFMod, startD, List.map_cons, List.map_nil, List.length_cons, List.length_nil, List.replicate_succ, List.replicate_zero, Nat.reduceAdd, Nat.reduceSub, Nat.reduceMul, List.cons_append, List.nil_append, List.getElem?_cons_zero, List.getElem?_cons_succ, List.set_cons_zero, List.set_cons_succ, ↓reduceIte, decide_eq_true_eq, Bool.false_eq_true, Int.natCast_inj, Int.toNat_natCast, Option.isSome_some, Option.isSome_none, Option.isNone_none, Option.isNone_some, Bool.or_eq_true, Bool.and_eq_true, Bool.not_eq_true', decide_eq_false_iff_not, Bool.not_true, Bool.not_false, beq_self_eq_true, Option.map_some, Option.bind_some, true_and, and_true, false_and, and_false, or_true, true_or, or_false, false_or, Nat.reduceLeDiff, Nat.reduceLT, Bool.false_and, Bool.true_and, Bool.and_false, Bool.and_true, Nat.zero_le, List.length_map, List.length_set, List.length_append, List.length_zipIdx, List.length_range, gt_iff_lt, not_true_eq_false, not_false_eq_true, eq_self, Bool.false_xor, Bool.true_xor, Bool.xor_false, List.not_mem_nil, decide_true, decide_false, $[$es:term],*])
theorem manual_ok {S : Sto} {k : Nat} {m : Int × Int} {most count : Nat} (h : S[k]? = some (ml m)) (hm : mOk m) (h0 : 0 < most) (h8 : most ≤ 8) (hc : count ≤ 1000) :
    ∃ (ks : List Nm) (rs : List Ru) (m' : Int × Int), Kin ks ∧ 0 < ks.length ∧ ks.length ≤ most ∧ Rul ks rs ∧ rs.length ≤ count ∧ mOk m' ∧ m__law_manual [.cell k, .int most, .int count] S = .ok (.tup [.lst (ks.map eN'), .lst (rs.map eR)]) (S.set k (ml m')) := by
  have hk : k < S.length := (List.getElem?_eq_some_iff.mp h).1
  have run : Hold (b__law_manual (startD 10 [.cell k, .int most, .int count]) S) [] (fun q => ∃ (ks : List Nm) (rs : List Ru) (m' : Int × Int), Kin ks ∧ 0 < ks.length ∧ ks.length ≤ most ∧ Rul ks rs ∧ rs.length ≤ count ∧ mOk m' ∧ fzR S q.toR = .ok (.tup [.lst (ks.map eN'), .lst (rs.map eR)]) (S.set k (ml m'))) := by
    exists b__law_manual
    obtain ⟨i, m1, i0, i3, hm1, e1⟩ := grind_ok (S := S) (k := k) (c := most) h hm (by omega) (by omega)
    obtain ⟨i, rfl⟩ := Int.eq_ofNat_of_zero_le i0
    obtain ⟨ks, m2, hl, hks, hm2, e2⟩ := tribes_ok (S := S.set k (ml m1)) (k := k) (n := 1 + i) (get_set hk) hm1 (by omega)
    have c1 : (1 : Int) + (i : Int) = ((1 + i : Nat) : Int) := by omega
    exists e1, c1, e2
    refine for_hold (enc := eN') (xs := ks) (chk := always) (S1 := S.set k (ml m2) ++ [.lst [], .lst []])
      (fun r ρ S' => ∃ (T : Sto) (e : Nat) (ev : List Ru) (x y z : Option Dv), S' = S.set k (ml m2) ++ T ∧ T[0]? = some (.lst []) ∧ 0 < e ∧ T[e]? = some (.lst (ev.map eR)) ∧ ρ = [some (.cell k), some (.int most), some (.int count), some (.lst (ks.map eN')), some (.cell S.length), some (.cell (S.length + e)), x, y, none, z] ∧ Rul ks ev ∧ (∀ q ∈ ev, q.1 ∉ r) ∧ r.Nodup ∧ ev.length + 64 * r.length ≤ 512) ?_ ?_ ?_ ?_ ?_
    · exists id_is
    · trivial
    · exact ⟨[.lst [], .lst []], 1, [], none, none, none, rfl, rfl, by omega, rfl, rfl, ⟨List.nodup_nil, (fun _ h => nomatch h)⟩, (fun _ h => nomatch h), hks.nd, (by have := hks.l8; simp only [List.length_nil]; omega)⟩
    · rintro who r ρ S' hwho ⟨T, e, ev, x, y, z, rfl, t0, he, te, rfl, hev, hnr, hr, hlen⟩
      have hk8 := hks.l8
      have hwr := (List.nodup_cons.mp hr).1
      rw [List.length_cons] at hlen
      exists id_is
      refine for_hold (enc := eN') (xs := ks) (chk := always) (S1 := S.set k (ml m2) ++ T)
        (fun r2 ρ S' => ∃ (T : Sto) (e : Nat) (ev : List Ru) (y z : Option Dv), S' = S.set k (ml m2) ++ T ∧ T[0]? = some (.lst []) ∧ 0 < e ∧ T[e]? = some (.lst (ev.map eR)) ∧ ρ = [some (.cell k), some (.int most), some (.int count), some (.lst (ks.map eN')), some (.cell S.length), some (.cell (S.length + e)), some (eN' who), y, none, z] ∧ Rul ks ev ∧ (∀ q ∈ ev, q.1 ∉ r) ∧ (∀ q ∈ ev, q.1 = who → q.2.1 ∉ r2) ∧ r2.Nodup ∧ ev.length + 8 * r2.length + 64 * r.length ≤ 512) ?_ ?_ ?_ ?_ ?_
      · exists id_is
      · trivial
      · exact ⟨T, e, ev, y, z, rfl, t0, he, te, rfl, hev, fun q hq h => hnr q hq (List.mem_cons_of_mem _ h), fun q hq h => absurd (h ▸ List.mem_cons_self) (hnr q hq), hks.nd, by omega⟩
      · rintro whom r2 ρ S' hwhom ⟨T, e, ev, y, z, rfl, t0, he, te, rfl, hev, hnr, hn2, hr2, hlen⟩
        rw [List.length_cons] at hlen
        have hfl : (ks.filter fun x => decide ¬x = who).length ≤ 8 := Nat.le_trans (List.length_filter_le _ _) hk8
        have nw := new_rules hks.nd hwho hwhom
        exists get_aft, te
        refine ⟨T ++ [.lst ((ev ++ (ks.filter fun x => decide ¬x = who).map fun x => (who, whom, x)).map eR)], T.length, _, some (eN' whom), z, rfl, ?_, ?_, List.getElem?_concat_length, rfl, hev.app nw ?_, ?_, ?_, hr2.tail, ?_⟩
        · have := (List.getElem?_eq_some_iff.mp t0).1
          rw [List.getElem?_append_left this]; exact t0
        · exact Nat.lt_of_le_of_lt (Nat.zero_le _) (List.getElem?_eq_some_iff.mp te).1
        · intro q hq hq2
          obtain ⟨a, _, rfl⟩ := List.mem_map.mp hq2
          exact hn2 _ hq rfl List.mem_cons_self
        · intro q hq
          rcases List.mem_append.mp hq with h | h
          · exact hnr q h
          · obtain ⟨a, _, rfl⟩ := List.mem_map.mp h
            exact hwr
        · intro q hq hw
          rcases List.mem_append.mp hq with h | h
          · exact fun z => hn2 q h hw (List.mem_cons_of_mem _ z)
          · obtain ⟨a, _, rfl⟩ := List.mem_map.mp h
            exact (List.nodup_cons.mp hr2).1
        · rw [List.length_append, List.length_map]; omega
      · rintro ρ S' ⟨T, e, ev, y, z, rfl, t0, he, te, rfl, hev, hnr, hn2, hr2, hlen⟩
        exists id_is
        exact ⟨T, e, ev, some (eN' who), y, z, rfl, t0, he, te, rfl, hev, hnr, hr.tail, by rw [List.length_nil] at hlen; omega⟩
    · rintro ρ S' ⟨T, e, ev, x, y, z, rfl, t0, he, te, rfl, hev, hnr, hr, hlen⟩
      obtain ⟨c, m3, c0, c3, hm3, e3⟩ := grind_ok (S := S.set k (ml m2) ++ T) (k := k) (c := (count : Int) + 1) (get_mill hk) hm2 (by omega) (by omega)
      obtain ⟨c, rfl⟩ := Int.eq_ofNat_of_zero_le c0
      rw [set_old (by rw [set_len]; exact hk), set_set] at e3
      exists id_is
      refine for_hold (enc := fun (i : Nat) => Dv.int (i : Int)) (xs := List.range c) (chk := always) (S1 := S.set k (ml m3) ++ T)
        (fun r ρ S' => ∃ (T : Sto) (mm : Int × Int) (fd ev : List Ru) (w : Option Dv), S' = S.set k (ml mm) ++ T ∧ mOk mm ∧ T[0]? = some (.lst (fd.map eR)) ∧ T[e]? = some (.lst (ev.map eR)) ∧ ρ = [some (.cell k), some (.int most), some (.int count), some (.lst (ks.map eN')), some (.cell S.length), some (.cell (S.length + e)), x, y, w, z] ∧ Rul ks (fd ++ ev) ∧ fd.length + r.length ≤ count ∧ fd.length + ev.length ≤ 512) ?_ ?_ ?_ ?_ ?_
      · exists e3
      · trivial
      · exact ⟨T, m3, [], ev, none, rfl, hm3, t0, te, rfl, hev, by rw [List.length_range, List.length_nil]; omega, by rw [List.length_nil]; omega⟩
      · rintro i' r ρ S' _ ⟨T, mm, fd, ev, w, rfl, hmm, t0, te, rfl, hre, hl1, hl2⟩
        rw [List.length_cons] at hl1
        have ce := eq_nilC (h := not) iR (by decide) (S := S.set k (ml mm) ++ T) (k := S.length + e) (l := ev) (by rw [get_aft]; exact te)
        cases hev0 : ev with
        | nil =>
          subst hev0
          exists ce, List.isEmpty_nil
          exact ⟨T, mm, fd, [], some (.int i'), rfl, hmm, t0, te, rfl, hre, by omega, by rw [List.length_nil] at hl2 ⊢; omega⟩
        | cons a ev' =>
          have hne : ev.isEmpty = false := by rw [hev0]; rfl
          have hpos : 0 < ev.length := by rw [hev0]; simp
          obtain ⟨j, m4, j0, j3, hm4, e4⟩ := grind_ok (S := S.set k (ml mm) ++ T) (k := k) (c := ev.length) (get_mill hk) hmm (by omega) (by omega)
          obtain ⟨j, rfl⟩ := Int.eq_ofNat_of_zero_le j0
          rw [set_old (by rw [set_len]; exact hk), set_set] at e4
          obtain ⟨q, hq⟩ : ∃ q, ev[j]? = some q := ⟨ev[j]'(by omega), List.getElem?_eq_getElem (by omega)⟩
          have t1 : (T.set e (.lst ((ev.eraseIdx j).map eR)))[0]? = some (.lst (fd.map eR)) := by rw [List.getElem?_set_ne (by omega)]; exact t0
          have l0 := (List.getElem?_eq_some_iff.mp t0).1
          have le := (List.getElem?_eq_some_iff.mp te).1
          exists ce, hne, get_aft, te, e4, popO_map hq, set_aft, get_aft0, t1, set_aft0, t0
          have hp := perm_pop (List.Perm.refl (fd ++ ev)) hq
          refine ⟨_, m4, fd ++ [q], ev.eraseIdx j, some (.int i'), rfl, hm4, List.getElem?_set_self (by rw [List.length_set]; exact l0), by rw [List.getElem?_set_ne (by omega), List.getElem?_set_self le], rfl, ⟨hp.nodup_iff.mpr hre.nd, fun r hr => hre.gd r (hp.mem_iff.mp hr)⟩, by rw [List.length_append, List.length_singleton]; omega, ?_⟩
          have := hp.length_eq
          simp only [List.length_append, List.length_singleton] at this ⊢
          omega
      · rintro ρ S' ⟨T, mm, fd, ev, w, rfl, hmm, t0, te, rfl, hre, hl1, hl2⟩
        exists id_is
        refine ⟨ks, fd, mm, hks, by omega, by omega, ⟨(List.nodup_append.mp hre.nd).1, fun r hr => hre.gd r (List.mem_append_left _ hr)⟩, by rw [List.length_nil] at hl1; omega, hmm, fzR_set (low_ints (l := [mm.1, mm.2])) ?_ ?_⟩
        · show Dv.tup [.lst ((ks.map eN').map (frz _ _ 6)), frz _ _ 7 (.cell S.length)] = _
          rw [frzs_py 6 (pyPs_en (f := eN') ks)]
          unfold frz
          rw [if_pos (by omega), get_aft0, t0]
          show Dv.tup [_, .lst ((fd.map eR).map (frz _ _ 6))] = _
          rw [frzs_py 6 (pyPs_en (f := eR) fd)]
        · rw [lowD, lowL, lowL, lowL, show lowD S.length (Dv.lst (ks.map eN')) = true from en_low (iL eN') _ ks, show lowD S.length (Dv.lst (fd.map eR)) = true from en_low (iL eR) _ fd]
          rfl
  exact run
end DL

namespace DL
open PySem PySem.Spec PyProof.Rows L2
/-! ### plans -/
def pl (ks : List Nm) (rs : List Ru) : Dv := .tup [.lst (ks.map eN'), .lst (rs.map eR)]
section
variable {S : Sto} {ks : List Nm} {rs : List Ru}
theorem ix_pl0 : oIx (pl ks rs) (.int 0) S = .ok (.lst (ks.map eN')) S := id rfl
theorem ix_pl1 : oIx (pl ks rs) (.int 1) S = .ok (.lst (rs.map eR)) S := id rfl
theorem gd_bad {r : Ru} (h : gd ks r) : badR ks r = false := by
  unfold badR
  rw [Bool.or_eq_false_iff, List.any_eq_false, decide_eq_false_iff_not]
  exact ⟨fun n hn => by simp [h.1 n hn], h.2⟩
theorem chkR_ok : ∀ (rs kn : List Ru), (∀ r ∈ rs, gd ks r) → (kn ++ rs).Nodup → chkR ks kn rs = none
  | [], _, _, _ => rfl
  | r :: l, kn, hg, hn => by
    have h1 := gd_bad (hg r List.mem_cons_self)
    have h2 : r ∉ kn := fun h => (List.nodup_append.mp hn).2.2 r h r List.mem_cons_self rfl
    rw [chkR, if_neg (by rw [h1]; simp), if_neg h2]
    exact chkR_ok l (kn ++ [r]) (fun q hq => hg q (List.mem_cons_of_mem _ hq)) (by rw [List.append_assoc]; exact hn)
theorem chkK_ok : ∀ (l kn : List Nm), (∀ x ∈ l, nmOk x.1 = true) → (kn ++ l).Nodup → chkK kn l = none
  | [], _, _, _ => rfl
  | r :: l, kn, hg, hn => by
    have h2 : r ∉ kn := fun h => (List.nodup_append.mp hn).2.2 r h r List.mem_cons_self rfl
    rw [chkK, if_neg (by rw [hg r List.mem_cons_self]; simp), if_neg h2]
    exact chkK_ok l (kn ++ [r]) (fun q hq => hg q (List.mem_cons_of_mem _ hq)) (by rw [List.append_assoc]; exact hn)
theorem nm_len {x : Nm} (h : nmOk x.1 = true) : x.1.length ≤ 8 := by
  unfold nmOk at h
  simp only [Bool.and_eq_true, decide_eq_true_eq] at h
  exact h.1.2
theorem bookO_ok {b : Dv} (hk : Kin ks) (hr : Rul ks rs) : bookO ks rs b S = .ok b S := by
  unfold bookO
  rw [chkK_ok ks [] hk.ok (by simpa using hk.nd), chkR_ok rs [] hr.gd (by simpa using hr.nd)]
theorem Book_ok {kd rd : Dv} (hk : Kin ks) (hr : Rul ks rs) (h1 : Rl S kd (ks.map eN')) (h2 : Rl S rd (rs.map eR)) (hl : rs.length ≤ 1000) : m_Book [kd, rd] S = .ok (bk ks (rank ks rs)) S := by
  rw [book_ok h1 h2 (by have := hk.l8; omega) hl (fun x hx => by have := nm_len (hk.ok x hx); omega), bookO_ok hk hr]
local macro_rules | `(tactic| exists $es,*) => `(tactic| simp (disch := first | omega | assumption | (simp only [*, Option.isSome_some, List.length_map, List.length_set]; done) | (simp only [*, Option.isSome_some, List.length_map, List.length_set]; omega)) only [DL.fmi_int, DL.fmi_nm, DL.fmi_eR, DL.hold_seq, DL.hold_nx, DL.hold_nx0, DL.hold_ret, DL.hold_brk, DL.hold_ct, DL.hold_exc, DL.toR_nx, DL.toR_ret, DL.toR_exc, DL.bnd_ok, DL.bnd_exc, DL.toS_ok, DL.toS_exc, DL.opt_some, DL.condR_true, DL.condR_of, DL.condS_true, DL.condS_of, DL.condR_bind, DL.condR_toS, DL.condR_condR, DL.getV_some, DL.ap_eV, DL.ap_eC, DL.ap_e1, DL.ap_e2, DL.ap_aNil, DL.ap_aCons, DL.ap_eN, DL.ap_eCall, DL.ap_eCallK, DL.ap_eMth, DL.ap_eMth0, DL.ap_eMthK, DL.ap_eM, DL.asB_bl, DL.ap_tV, DL.ap_tAnd, DL.ap_tOr, DL.ap_tNot, DL.ap_tYes, DL.ap_eIf, DL.andK_bl, DL.orK_bl, DL.ap_eAnd, DL.ap_eOr, DL.ap_uNot, DL.ap_uNeg, DL.ap_xNone, DL.asO_int, DL.ap_xSome, DL.ap_eSl, DL.chK_int, DL.ap_eCh, DL.ap_sNil, DL.ap_sBrk, DL.ap_sCt, DL.ap_sExpr, DL.ap_sRet, DL.ap_sSet, DL.ap_sIf, DL.ap_sAsg, DL.parK_ok, DL.ap_sPar, DL.ap_sRaise, DL.ap_sFld, DL.ap_gN, DL.ap_gTp, DL.ap_gsNil, DL.gsK_some, DL.ap_gsCons, DL.gUl_lst, DL.ap_gUl, DL.ap_gIx, DL.ixK_cell, DL.ixK2_int, DL.putO_lst, DL.putO_0, DL.putO_1, DL.putO_2, DL.asL_lst, DL.asR_lst, DL.asR_ro, DL.asQ_lst, DL.asQ_ro, DL.asQ_tup, DL.asQ_ktup, DL.lstO_lst, DL.asL_cell, DL.asR_cell, DL.asQ_cell, DL.isL_def, DL.add_int, DL.oI_int, DL.oIc_int, DL.oB_int, DL.is_non, DL.is_int, DL.is_str, DL.is_lst, DL.is_tup, DL.is_cell, DL.isn_non, DL.isn_int, DL.isn_str, DL.isn_lst, DL.isn_tup, DL.isn_cell, DL.mkT_ok, DL.mkL_ok, DL.mkC_ok, DL.add_lst, DL.addK_ok, DL.addC_ap, DL.lenO_some, DL.len_cell, DL.len_lst, DL.len_tup, DL.len_ktup, DL.len_ro, DL.bLen_of, DL.bInt_int, DL.bInt_bl, DL.bAbs_int, DL.bMax_int, DL.bMin_int, DL.lstK_some, DL.lstCK_some, DL.tupK_some, DL.ktupK_some, DL.bList_of, DL.bListC_of, DL.bTuple_tup, DL.tuple_cell, DL.tuple_lst, DL.tuple_ro, DL.tuple_ktup, DL.bTuple_of, DL.bTupleK_of, DL.mApp_ap, DL.appO_lst, DL.mPopAt_ap, DL.mulL_2, DL.someR_ok, DL.ixO_some, DL.ix_cell, DL.ix_lst, DL.ix_tup, DL.ix_ktup, DL.ix_ro, DL.ix_of, DL.sl_tup, DL.sl_lst, DL.slK_some, DL.sl_cell, DL.cut_take, DL.cut_drop, DL.take_map, DL.drop_map, DL.atI_map, DL.atI_0, DL.atI_1, DL.atI_2, DL.atI_3, DL.wipe_nil, DL.wipe_cons, DL.noexc_k, DL.noexc_c, DL.ap_turn, DL.trnK_some, DL.ap_lcD, DL.ap_eLc, DL.ap_eLcC, DL.lcK_typed, DL.lcT_ok, DL.lcT_cond, DL.always_is, DL.ite_ok, DL.ite_int, DL.ite_bl, DL.fm_int, DL.fm_bl, DL.fm_str, DL.fm_if, DL.ap_iSeq, DL.it_lst, DL.it_ro, DL.it_tup, DL.it_ktup, DL.itO_lst, DL.it_cell, DL.any_lst, DL.all_lst, DL.any_map', DL.all_map', DL.push_len, DL.push_push, DL.get_0, DL.get_1, DL.get_2, DL.set_0, DL.set_1, DL.set_2, DL.set_len, DL.set_set, DL.get_app, DL.set_app, DL.get_aft, DL.get_aft0, DL.set_aft, DL.set_aft0, DL.str_eq, DL.int_eq, DL.ints_eq, DL.intsT_eq, DL.id_is, DL.eq_nn, DL.eq_nilI, DL.eq_nilN, DL.sum_lst, DL.set_ints, DL.app_ints, DL.ite_true', DL.ite_false', DL.pickO_some, DL.pick_nil, DL.pick_cons, DL.fzR_py, DL.fz_non, DL.fz_nonT, DL.fz_int, DL.fz_intT, DL.fz_bl, DL.fz_blT, DL.fz_ints, DL.fz_intsT, DL.fz_tints, DL.fz_tintsT, DL.nxt_nx, DL.nxt_ct, DL.nxt_brk, DL.nxt_ret, DL.nxt_exc, DL.ap_iRg1, DL.ap_iRg2, DL.rgK_ok, DL.rgK2_ok, DL.ap_iEn, DL.enK_lst, DL.enK_ro, DL.ap_iZp, DL.zpK_tup, DL.zpK_lst, DL.turn_eI, DL.turn_eP, DL.len_str, DL.it_str, DL.in_ch, DL.app_map, DL.it_eR, DL.ix_eR0, DL.ix_eR1, DL.ix_eR2, DL.eq_nm, DL.eq_eR, DL.is_eR, DL.isn_eR, DL.eq_nilR, DL.rl_len, DL.atI_ix, DL.it_dI, DL.map_dI, DL.fm_eR, DL.fm_nm, DL.tup3_eR, DL.app_rs, DL.map_id'', DL.fm_dI, DL.tup_eR, DL.eta_nm, DL.eta_eR, DL.eta_dI, DL.bk_kinds, DL.bk_rules, DL.bk_of, DL.fz_nms, DL.fz_rs, DL.fz_bk, DL.kinds_ok, DL.rules_ok, DL.blen_ok, DL.prp_bk, DL.ins_bk1, DL.in_ktup, DL.in_rtup, DL.in_rlst, DL.eq_ktup, DL.eq_rtup, DL.eq_rlst, DL.eq_nlst, DL.isi_bk, DL.beq_ok, DL.own_bk, DL.wantB_bl, DL.lenO_bk, DL.isn_eCOL, DL.is_eCOL, DL.is_eCOT, DL.isn_eCOT, DL.it_eIT, DL.is_eIT, DL.repr_lst, DL.repr_tup, DL.repr_cell, DL.repr_eIL, DL.reprT_some, DL.py_int, DL.py_str, DL.py_bl, DL.py_non, DL.py_nm, DL.py_eR, DL.py_eIL, DL.py_lst', DL.py_tup', DL.pys_nil, DL.pys_cons, DL.pys_int, DL.pys_nm, DL.pys_eR, DL.pys_eIL, DL.py_cell', DL.cellPy_lst, DL.pyp_int, DL.pyp_nm, DL.pyp_eR, DL.pyp_eIL, DL.ix_pl0, DL.ix_pl1, reduceDIte, Nat.reduceEqDiff, dreduceDIte, Int.reduceNegSucc, Nat.reduceOr, Nat.reducePow, Nat.reduceGT, Nat.reduceBneDiff, Nat.reduceSubDiff, Nat.reduceMod, Int.reduceGE, Int.reduceToNat, Int.reduceEq, dreduceIte, Int.reduceGT, Int.reducePow, Nat.reduceBNe, Int.reduceDiv, Int.reduceMul, reduceCtorEq, Int.reduceBEq, Nat.reduceBeqDiff, String.reduceNe, String.reduceBNe, Int.reduceNe, String.reduceBEq, Int.reduceSub, Int.reduceAbs, Int.reduceLT, Int.reduceNeg, Nat.reduceDiv, Int.reduceBNe, Int.reduceDvd, Int.reduceAdd, Nat.reduceBEq, Nat.reduceSucc, String.reduceEq, Int.reduceLE, Int.reduceMod, reduceIte, Int.reduceFDiv, Int.reduceFMod, startD, List.map_cons, List.map_nil, List.length_cons, List.length_nil, List.replicate_succ, List.replicate_zero, Nat.reduceAdd, Nat.reduceSub, Nat.reduceMul, List.cons_append, List.nil_append, List.getElem?_cons_zero, List.getElem?_cons_succ, List.set_cons_zero, List.set_cons_succ, ↓reduceIte, decide_eq_true_eq, Bool.false_eq_true, Int.natCast_inj, Int.toNat_natCast, Option.isSome_some, Option.isSome_none, Option.isNone_none, Option.isNone_some, Bool.or_eq_true, Bool.and_eq_true, Bool.not_eq_true', decide_eq_false_iff_not, Bool.not_true, Bool.not_false, beq_self_eq_true, Option.map_some, Option.bind_some, true_and, and_true, false_and, and_false, or_true, true_or, or_false, false_or, Nat.reduceLeDiff, Nat.reduceLT, Bool.false_and, Bool.true_and, Bool.and_false, Bool.and_true, Nat.zero_le, List.length_map, List.length_set, List.length_append, List.length_zipIdx, List.length_range, gt_iff_lt, not_true_eq_false, not_false_eq_true, eq_self, Bool.false_xor, Bool.true_xor, Bool.xor_false, List.not_mem_nil, decide_true, decide_false, $[$es:term],*])
theorem code_ok (hk : Kin ks) (hr : Rul ks rs) (hl : rs.length ≤ 1000) : m__law_code [pl ks rs] S = .ok (bk ks (rank ks rs)) S := by
  apply fz_hold
  exists b__law_code, Book_ok hk hr (.lst _) (.lst _) hl
/-! ### ranked -/
def pL (ks : List Nm) (r : Ru) : PyData := .list [.int (ixOf r.1 ks), .int (ixOf r.2.1 ks), .int (ixOf r.2.2 ks)]
def lI (ks : List Nm) (r : Ru) : Dv := .lst [.int (ixOf r.1 ks), .int (ixOf r.2.1 ks), .int (ixOf r.2.2 ks)]
theorem le_pL (ks : List Nm) : PySem.W.dataLe false (pL ks) = PySem.W.dataLe false (pI ks) := by
  have e : (fun b => PySem.W.keyToks (pL ks b)) = fun b => PySem.W.keyToks (pI ks b) := by
    funext b
    simp [pL, pI, PySem.W.keyToks]
  unfold PySem.W.dataLe
  rw [e]
theorem fm_lI : (rs.filterMap fun x => some (Dv.lst (((rl x).map fun x => ((ixOf x ks : Nat) : Int)).map Dv.int))) = rs.map (lI ks) := fm_some
theorem it_lI {r : Ru} : itD (lI ks r) S = .ok ((rl r).map fun x => .int ((ixOf x ks : Nat) : Int), always) S := id rfl
theorem sorted_lI (h : rs.length ≤ 16777216) : bSorted [.lst (rs.map (lI ks))] S = .ok (.lst ((rank ks rs).map (lI ks))) S := by
  rw [sorted_by (g := pL ks) (fun r => by unfold lI pL; rw [toPy]; simp [toPys, toPy]) (fun a b => by simp [pL, PySem.W.alike, PySem.W.alikeAll]) (.inr fun _ => rfl) (fun a => by simp [pL, PyData.depth, PyData.depthAll]) h, le_pL]
  rfl
theorem rank_gd (hr : ∀ r ∈ rs, gd ks r) : ∀ r ∈ rank ks rs, ∀ n ∈ rl r, n ∈ ks := fun r h => (hr r ((rank_perm ks rs).mem_iff.mp h)).1
local macro_rules | `(tactic| exists $es,*) => `(tactic| simp (disch := first | omega | assumption | (simp only [*, Option.isSome_some, List.length_map, List.length_set]; done) | (simp only [*, Option.isSome_some, List.length_map, List.length_set]; omega)) only [DL.fmi_int, DL.fmi_nm, DL.fmi_eR, DL.hold_seq, DL.hold_nx, DL.hold_nx0, DL.hold_ret, DL.hold_brk, DL.hold_ct, DL.hold_exc, DL.toR_nx, DL.toR_ret, DL.toR_exc, DL.bnd_ok, DL.bnd_exc, DL.toS_ok, DL.toS_exc, DL.opt_some, DL.condR_true, DL.condR_of, DL.condS_true, DL.condS_of, DL.condR_bind, DL.condR_toS, DL.condR_condR, DL.getV_some, DL.ap_eV, DL.ap_eC, DL.ap_e1, DL.ap_e2, DL.ap_aNil, DL.ap_aCons, DL.ap_eN, DL.ap_eCall, DL.ap_eCallK, DL.ap_eMth, DL.ap_eMth0, DL.ap_eMthK, DL.ap_eM, DL.asB_bl, DL.ap_tV, DL.ap_tAnd, DL.ap_tOr, DL.ap_tNot, DL.ap_tYes, DL.ap_eIf, DL.andK_bl, DL.orK_bl, DL.ap_eAnd, DL.ap_eOr, DL.ap_uNot, DL.ap_uNeg, DL.ap_xNone, DL.asO_int, DL.ap_xSome, DL.ap_eSl, DL.chK_int, DL.ap_eCh, DL.ap_sNil, DL.ap_sBrk, DL.ap_sCt, DL.ap_sExpr, DL.ap_sRet, DL.ap_sSet, DL.ap_sIf, DL.ap_sAsg, DL.parK_ok, DL.ap_sPar, DL.ap_sRaise, DL.ap_sFld, DL.ap_gN, DL.ap_gTp, DL.ap_gsNil, DL.gsK_some, DL.ap_gsCons, DL.gUl_lst, DL.ap_gUl, DL.ap_gIx, DL.ixK_cell, DL.ixK2_int, DL.putO_lst, DL.putO_0, DL.putO_1, DL.putO_2, DL.asL_lst, DL.asR_lst, DL.asR_ro, DL.asQ_lst, DL.asQ_ro, DL.asQ_tup, DL.asQ_ktup, DL.lstO_lst, DL.asL_cell, DL.asR_cell, DL.asQ_cell, DL.isL_def, DL.add_int, DL.oI_int, DL.oIc_int, DL.oB_int, DL.is_non, DL.is_int, DL.is_str, DL.is_lst, DL.is_tup, DL.is_cell, DL.isn_non, DL.isn_int, DL.isn_str, DL.isn_lst, DL.isn_tup, DL.isn_cell, DL.mkT_ok, DL.mkL_ok, DL.mkC_ok, DL.add_lst, DL.addK_ok, DL.addC_ap, DL.lenO_some, DL.len_cell, DL.len_lst, DL.len_tup, DL.len_ktup, DL.len_ro, DL.bLen_of, DL.bInt_int, DL.bInt_bl, DL.bAbs_int, DL.bMax_int, DL.bMin_int, DL.lstK_some, DL.lstCK_some, DL.tupK_some, DL.ktupK_some, DL.bList_of, DL.bListC_of, DL.bTuple_tup, DL.tuple_cell, DL.tuple_lst, DL.tuple_ro, DL.tuple_ktup, DL.bTuple_of, DL.bTupleK_of, DL.mApp_ap, DL.appO_lst, DL.mPopAt_ap, DL.mulL_2, DL.someR_ok, DL.ixO_some, DL.ix_cell, DL.ix_lst, DL.ix_tup, DL.ix_ktup, DL.ix_ro, DL.ix_of, DL.sl_tup, DL.sl_lst, DL.slK_some, DL.sl_cell, DL.cut_take, DL.cut_drop, DL.take_map, DL.drop_map, DL.atI_map, DL.atI_0, DL.atI_1, DL.atI_2, DL.atI_3, DL.wipe_nil, DL.wipe_cons, DL.noexc_k, DL.noexc_c, DL.ap_turn, DL.trnK_some, DL.ap_lcD, DL.ap_eLc, DL.ap_eLcC, DL.lcK_typed, DL.lcT_ok, DL.lcT_cond, DL.always_is, DL.ite_ok, DL.ite_int, DL.ite_bl, DL.fm_int, DL.fm_bl, DL.fm_str, DL.fm_if, DL.ap_iSeq, DL.it_lst, DL.it_ro, DL.it_tup, DL.it_ktup, DL.itO_lst, DL.it_cell, DL.any_lst, DL.all_lst, DL.any_map', DL.all_map', DL.push_len, DL.push_push, DL.get_0, DL.get_1, DL.get_2, DL.set_0, DL.set_1, DL.set_2, DL.set_len, DL.set_set, DL.get_app, DL.set_app, DL.get_aft, DL.get_aft0, DL.set_aft, DL.set_aft0, DL.str_eq, DL.int_eq, DL.ints_eq, DL.intsT_eq, DL.id_is, DL.eq_nn, DL.eq_nilI, DL.eq_nilN, DL.sum_lst, DL.set_ints, DL.app_ints, DL.ite_true', DL.ite_false', DL.pickO_some, DL.pick_nil, DL.pick_cons, DL.fzR_py, DL.fz_non, DL.fz_nonT, DL.fz_int, DL.fz_intT, DL.fz_bl, DL.fz_blT, DL.fz_ints, DL.fz_intsT, DL.fz_tints, DL.fz_tintsT, DL.nxt_nx, DL.nxt_ct, DL.nxt_brk, DL.nxt_ret, DL.nxt_exc, DL.ap_iRg1, DL.ap_iRg2, DL.rgK_ok, DL.rgK2_ok, DL.ap_iEn, DL.enK_lst, DL.enK_ro, DL.ap_iZp, DL.zpK_tup, DL.zpK_lst, DL.turn_eI, DL.turn_eP, DL.len_str, DL.it_str, DL.in_ch, DL.app_map, DL.it_eR, DL.ix_eR0, DL.ix_eR1, DL.ix_eR2, DL.eq_nm, DL.eq_eR, DL.is_eR, DL.isn_eR, DL.eq_nilR, DL.rl_len, DL.atI_ix, DL.it_dI, DL.map_dI, DL.fm_eR, DL.fm_nm, DL.tup3_eR, DL.app_rs, DL.map_id'', DL.fm_dI, DL.tup_eR, DL.eta_nm, DL.eta_eR, DL.eta_dI, DL.bk_kinds, DL.bk_rules, DL.bk_of, DL.fz_nms, DL.fz_rs, DL.fz_bk, DL.kinds_ok, DL.rules_ok, DL.blen_ok, DL.prp_bk, DL.ins_bk1, DL.in_ktup, DL.in_rtup, DL.in_rlst, DL.eq_ktup, DL.eq_rtup, DL.eq_rlst, DL.eq_nlst, DL.isi_bk, DL.beq_ok, DL.own_bk, DL.wantB_bl, DL.lenO_bk, DL.isn_eCOL, DL.is_eCOL, DL.is_eCOT, DL.isn_eCOT, DL.it_eIT, DL.is_eIT, DL.repr_lst, DL.repr_tup, DL.repr_cell, DL.repr_eIL, DL.reprT_some, DL.py_int, DL.py_str, DL.py_bl, DL.py_non, DL.py_nm, DL.py_eR, DL.py_eIL, DL.py_lst', DL.py_tup', DL.pys_nil, DL.pys_cons, DL.pys_int, DL.pys_nm, DL.pys_eR, DL.pys_eIL, DL.py_cell', DL.cellPy_lst, DL.pyp_int, DL.pyp_nm, DL.pyp_eR, DL.pyp_eIL, DL.ix_pl0, DL.ix_pl1, DL.fm_lI, DL.it_lI, reduceDIte, Nat.reduceEqDiff, dreduceDIte, Int.reduceNegSucc, Nat.reduceOr, Nat.reducePow, Nat.reduceGT, Nat.reduceBneDiff, Nat.reduceSubDiff, Nat.reduceMod, Int.reduceGE, Int.reduceToNat, Int.reduceEq, dreduceIte, Int.reduceGT, Int.reducePow, Nat.reduceBNe, Int.reduceDiv, Int.reduceMul, reduceCtorEq, Int.reduceBEq, Nat.reduceBeqDiff, String.reduceNe, String.reduceBNe, Int.reduceNe, String.reduceBEq, Int.reduceSub, Int.reduceAbs, Int.reduceLT, Int.reduceNeg, Nat.reduceDiv, Int.reduceBNe, Int.reduceDvd, Int.reduceAdd, Nat.reduceBEq, Nat.reduceSucc, String.reduceEq, Int.reduceLE, Int.reduceMod, reduceIte, Int.reduceFDiv, Int.reduceFMod, startD, List.map_cons, List.map_nil, List.length_cons, List.length_nil, List.replicate_succ, List.replicate_zero, Nat.reduceAdd, Nat.reduceSub, Nat.reduceMul, List.cons_append, List.nil_append, List.getElem?_cons_zero, List.getElem?_cons_succ, List.set_cons_zero, List.set_cons_succ, ↓reduceIte, decide_eq_true_eq, Bool.false_eq_true, Int.natCast_inj, Int.toNat_natCast, Option.isSome_some, Option.isSome_none, Option.isNone_none, Option.isNone_some, Bool.or_eq_true, Bool.and_eq_true, Bool.not_eq_true', decide_eq_false_iff_not, Bool.not_true, Bool.not_false, beq_self_eq_true, Option.map_some, Option.bind_some, true_and, and_true, false_and, and_false, or_true, true_or, or_false, false_or, Nat.reduceLeDiff, Nat.reduceLT, Bool.false_and, Bool.true_and, Bool.and_false, Bool.and_true, Nat.zero_le, List.length_map, List.length_set, List.length_append, List.length_zipIdx, List.length_range, gt_iff_lt, not_true_eq_false, not_false_eq_true, eq_self, Bool.false_xor, Bool.true_xor, Bool.xor_false, List.not_mem_nil, decide_true, decide_false, $[$es:term],*])
theorem ranked_ok (hr : ∀ r ∈ rs, gd ks r) (hl : rs.length ≤ 1000) (hk : ks.length ≤ 1000) : m__law_ranked [pl ks rs] S = .ok (.lst ((rank ks rs).map eR)) S := by
  apply fz_hold
  have h1 : ∀ r ∈ rs, ∀ n ∈ rl r, n ∈ ks := fun r h => (hr r h).1
  have h2 := rank_gd hr
  exists b__law_ranked, (Rl.lst (S := S) (ks.map eN')).index, sorted_lI, rank_len
/-! ### herds, the law's own step -/
theorem nth_get {c : List Int} {i : Nat} (h : i < c.length) : c[i]? = some (nth' c i) := by
  unfold nth'
  rw [Int.toNat_natCast, List.getElem?_eq_getElem h]
  rfl
theorem stp_get {c : List Int} {f t i : Nat} (hf : f < c.length) (ht : t < c.length) (hft : t ≠ f) : (stp c f t)[i]? = c[i]?.map fun x => (x - if i = f then 1 else 0) + if i = t then 1 else 0 := by
  unfold stp
  have e : nth' (c.set f (nth' c f - 1)) (t : Int) = nth' c t := by
    unfold nth'
    simp only [Int.toNat_natCast]
    rw [List.getElem?_set_ne (Ne.symm hft)]
  dsimp only
  rw [e]
  by_cases h1 : i = t
  · subst h1
    rw [List.getElem?_set_self (by rw [List.length_set]; exact ht), nth_get ht, if_neg hft, if_pos rfl]
    simp
  · rw [List.getElem?_set_ne (Ne.symm h1)]
    by_cases h2 : i = f
    · subst h2
      rw [List.getElem?_set_self hf, nth_get hf, if_pos rfl, if_neg h1]
      simp
    · rw [List.getElem?_set_ne (Ne.symm h2), if_neg h1, if_neg h2]
      cases c[i]? <;> simp
theorem stp_zip {c : List Int} {f t : Nat} (hf : f < c.length) (ht : t < c.length) (hft : t ≠ f) : (c.zipIdx.map fun x => (x.1 - if x.2 = f then 1 else 0) + if x.2 = t then 1 else 0) = stp c f t := by
  apply List.ext_getElem?
  intro i
  rw [stp_get hf ht hft, List.getElem?_map, List.getElem?_zipIdx]
  cases c[i]? <;> simp
theorem turned_ok {d : Dv} {c : List Int} {r : Ru} (hr : gd ks r) (h : Rl S d (c.map .int)) (hl : c.length = ks.length) (hk : ks.length ≤ 1000) : m__law_turned_to [pl ks rs, d, eR r] S = .ok (eCO eIL (mv ks c r)) S := by
  unfold mv
  apply fz_hold
  have h1 := hr.1
  have a1 := ixOf_lt (hr.1 r.1 (by simp [rl]))
  have a2 := ixOf_lt (hr.1 r.2.1 (by simp [rl]))
  have a3 := ixOf_lt (hr.1 r.2.2 (by simp [rl]))
  exists b__law_turned_to, (Rl.lst (S := S) (ks.map eN')).index
  exists rl, h.rv.ix
  have hne : ixOf r.2.2 ks ≠ ixOf r.1 ks := fun z => hr.2 (by
    have g1 := ixOf_get (hr.1 r.2.2 (by simp [rl]))
    have g2 := ixOf_get (hr.1 r.1 (by simp [rl]))
    rw [z, g2] at g1
    exact (Option.some.inj g1).symm)
  generalize ixOf r.1 ks = f at *
  generalize ixOf r.2.1 ks = w at *
  generalize ixOf r.2.2 ks = t at *
  have hft : t ≠ f := hne
  by_cases hb : nth' c f < 1 ∨ nth' c w < 1 + if w = f then 1 else 0
  · exists hb
    rw [movO, if_neg (by unfold able1; simp only [Bool.and_eq_true, decide_eq_true_eq]; split at hb <;> simp_all <;> omega)]
    rfl
  · exists hb, h.en, h.rv.ck, stp_zip (c := c) (by omega : f < c.length) (by omega : t < c.length) hft
    rw [movO, if_pos (by unfold able1; simp only [Bool.and_eq_true, decide_eq_true_eq]; split at hb <;> simp_all <;> omega)]
    rfl
end
end DL

/-! Rules: try, three at once, texts. -/
namespace DL
open PySem PySem.Spec PyProof.Rows L2
section
variable {ρ : En} {S : Sto} {rest : List Sm} {P : SRe → Prop} {d x y z : Dv} {i j m c : Nat} {ct : Nat → Option Bool} {b : Sm} {fs : Nat → Dv → Sm}
def par3K (i j m : Nat) (ρ : En) : List Dv → Sto → SRe
  | [d, e, a], S => .nx (((ρ.set i (some d)).set j (some e)).set m (some a)) S
  | _, _ => .bad
theorem par3K_ok : par3K i j m ρ [x, y, z] S = .nx (((ρ.set i (some x)).set j (some y)).set m (some z)) S := id rfl
theorem ap_sPar3 {f : Xs} : sPar3 i j m f ρ S = (f ρ S).toS ρ (par3K i j m ρ) := by
  unfold sPar3
  congr 1
  funext l S'
  match l with
  | [] => rfl
  | [_] => rfl
  | [_, _] => rfl
  | [_, _, _] => rfl
  | _ :: _ :: _ :: _ :: _ => rfl
/-- behind an except suite -/
def unsetS (i : Nat) : SRe → SRe
  | .nx ρ S => .nx (ρ.set i none) S
  | .brk ρ S => .brk (ρ.set i none) S
  | .ct ρ S => .ct (ρ.set i none) S
  | .ret d S => .ret d S
  | _ => .bad
theorem unset_nx : unsetS i (.nx ρ S) = .nx (ρ.set i none) S := id rfl
theorem unset_ct : unsetS i (.ct ρ S) = .ct (ρ.set i none) S := id rfl
theorem unset_brk : unsetS i (.brk ρ S) = .brk (ρ.set i none) S := id rfl
theorem unset_ret : unsetS i (.ret d S) = .ret d S := id rfl
def catK (i : Nat) (fs : Nat → Dv → Sm) (c : Nat) (d : Dv) (ρ : En) (S : Sto) : Option Bool → SRe
  | some true => if i < ρ.length then unsetS i (fs c d ρ S) else .bad
  | some false => .exc c d ρ S
  | none => .bad
theorem hold_try : Hold (sTry i ct b fs ρ S) rest P = Hold (b ρ S) [] (fun q => Hold (catchD i ct fs q) rest P) := id rfl
theorem catch_nx : catchD i ct fs (.nx ρ S) = .nx ρ S := id rfl
theorem catch_ct : catchD i ct fs (.ct ρ S) = .ct ρ S := id rfl
theorem catch_brk : catchD i ct fs (.brk ρ S) = .brk ρ S := id rfl
theorem catch_ret : catchD i ct fs (.ret d S) = .ret d S := id rfl
theorem catch_exc : catchD i ct fs (.exc c d ρ S) = catK i fs c d ρ S (ct c) := by
  simp only [catchD, catK]
  generalize ct c = o
  match o with
  | none => rfl
  | some false => rfl
  | some true =>
    by_cases h : i < ρ.length
    · simp only [if_pos h]
      cases fs c d ρ S <;> rfl
    · simp only [if_neg h]
theorem hold_cat (h : i < ρ.length) : Hold (catK i fs c d ρ S (some true)) rest P = Hold (fs c d ρ S) [] (fun q => Hold (unsetS i q) rest P) := by
  unfold catK
  rw [if_pos h]
  rfl
theorem cat_no : catK i fs c d ρ S (some false) = .exc c d ρ S := id rfl
theorem eO_ok {a : Bool} : eO (some a) ρ S = .ok (.bl a) S := id rfl
theorem sl_str {x : Str} {lo hi : Option Int} (h : x.length ≤ 16777216) : oSl (.str x) lo hi S = .ok (.str (cutS x lo hi)) S := by
  show (if x.length ≤ sizeLine then Re.ok (Dv.str (cutS x lo hi)) S else .bad) = _
  rw [if_pos (by rw [sizeLine_is]; exact h)]
theorem add_str' {x y : Str} (h : x.length + y.length ≤ 16777216) : oAdd (.str x) (.str y) S = .ok (.str (x ++ y)) S := by
  show (if x.length + y.length ≤ sizeLine then Re.ok (Dv.str (x ++ y)) S else .bad) = _
  rw [if_pos (by rw [sizeLine_is]; exact h)]
theorem ix_str {x : Str} {i : Int} {c : Nat} (h : x.length ≤ 16777216) (hc : atI x.cps.toList i = some c) : oIx (.str x) (.int i) S = .ok (eCh1 c) S := by
  show (if x.length ≤ sizeLine then (match atI x.cps.toList i with | some c => Re.ok (Dv.str ⟨#[c]⟩) S | none => .bad) else .bad) = _
  rw [if_pos (by rw [sizeLine_is]; exact h), hc]
  rfl
theorem add_tup {l m : List Dv} : oAddT (.tup l) (.tup m) S = mkT (l ++ m) S := id rfl
theorem mul_9 {x : Str} (h : x.length * 9 ≤ 16777216) : oMulS (.str x) (.int 9) S = .ok (.str (Txt.mul x 9)) S := by
  show (if 0 ≤ (9 : Int) ∧ (9 : Int) < 1000000 ∧ x.length * 9 ≤ sizeLine then _ else _) = _
  rw [if_pos ⟨by omega, by omega, by rw [sizeLine_is]; exact h⟩]
end
end DL

/-! Plain facts: texts of lists of numbers are unlike for unlike lists; dicts of such keys. -/
namespace DL
open PySem PySem.Spec PyProof.Rows L2
def cpsJ : List (List Nat) → List Nat
  | [] => []
  | [t] => t
  | t :: r => t ++ [44, 32] ++ cpsJ r
theorem textFrom_cps : ∀ (ts : List Str) (k : Nat) (acc : Str), 0 < k → (textFrom k acc ts).cps.toList = acc.cps.toList ++ (ts.map fun t => [44, 32] ++ t.cps.toList).flatten
  | [], k, acc, _ => by unfold textFrom; simp
  | t :: r, k, acc, hk => by
    unfold textFrom
    rw [textFrom_cps r (k + 1) _ (by omega), if_pos hk]
    have e : (acc ++ (", " : String) ++ t : Str).cps.toList = acc.cps.toList ++ [44, 32] ++ t.cps.toList := by
      show ((acc.cps ++ (Str.ofString ", ").cps) ++ t.cps).toList = _
      rw [show (Str.ofString ", ").cps = #[44, 32] by decide +kernel]
      simp
    rw [e]
    simp
theorem cpsJ_cons (t : List Nat) : ∀ r : List (List Nat), cpsJ (t :: r) = t ++ (r.map fun t => [44, 32] ++ t).flatten
  | [] => by simp [cpsJ]
  | u :: r => by
    rw [cpsJ, cpsJ_cons u r]
    · simp
    · simp
theorem listText_cps (ts : List Str) : (listText ts).cps.toList = [91] ++ cpsJ (ts.map fun t => t.cps.toList) ++ [93] := by
  have e : ∀ x : Str, (x ++ ("]" : String) : Str).cps.toList = x.cps.toList ++ [93] := fun x => by
    show (x.cps ++ (Str.ofString "]").cps).toList = _
    rw [show (Str.ofString "]").cps = #[93] by decide +kernel]
    simp
  unfold listText
  rw [e]
  congr 1
  cases ts with
  | nil =>
    unfold textFrom
    show (Str.ofString "[").cps.toList = _
    decide +kernel
  | cons t r =>
    unfold textFrom
    rw [textFrom_cps r 1 _ (by omega), if_neg (by omega), List.map_cons, cpsJ_cons]
    have e2 : ((("[" : String) : Str) ++ ((("" : String) : String) : Str) ++ t : Str).cps.toList = 91 :: t.cps.toList := by
      show (((Str.ofString "[").cps ++ (Str.ofString "").cps) ++ t.cps).toList = _
      rw [show (Str.ofString "[").cps = #[91] by decide +kernel, show (Str.ofString "").cps = #[] by decide +kernel]
      simp
    rw [e2]
    simp [List.map_map, Function.comp_def]
theorem take_ne {t r : List Nat} (h : 44 ∉ t) : (t ++ 44 :: r).takeWhile (fun c => c != 44) = t := by
  rw [List.takeWhile_append_of_pos (fun a ha => by
    have : a ≠ 44 := fun z => h (z ▸ ha)
    simpa using this)]
  simp
theorem take_all {t : List Nat} (h : 44 ∉ t) : t.takeWhile (fun c => c != 44) = t := by
  have := List.takeWhile_append_of_pos (p := fun c : Nat => c != 44) (l₁ := t) (l₂ := []) (fun a ha => by
    have : a ≠ 44 := fun z => h (z ▸ ha)
    simpa using this)
  simpa using this
theorem tail_inj {a b : List (List Nat)} : (∀ t ∈ a, 44 ∉ t) → (∀ t ∈ b, 44 ∉ t) → (a.map fun t => [44, 32] ++ t).flatten = (b.map fun t => [44, 32] ++ t).flatten → a = b := by
  induction a generalizing b with
  | nil =>
    intro _ _ e
    cases b with
    | nil => rfl
    | cons t r => simp at e
  | cons t r ih =>
    intro ha hb e
    cases b with
    | nil => simp at e
    | cons u s =>
      simp only [List.map_cons, List.flatten_cons, List.cons_append, List.nil_append, List.append_assoc, List.cons.injEq, true_and] at e
      have h1 := ha t List.mem_cons_self
      have h2 := hb u List.mem_cons_self
      have fin : ∀ (x : List Nat) (l : List (List Nat)), 44 ∉ x → (x ++ (l.map fun t => [44, 32] ++ t).flatten).takeWhile (fun c => c != 44) = x := fun x l hx => by
        cases l with
        | nil => simpa using take_all hx
        | cons y l => simpa using take_ne (r := 32 :: (y ++ (l.map fun t => [44, 32] ++ t).flatten)) hx
      have q := congrArg (List.takeWhile fun c => c != 44) e
      have q1 := fin t r h1
      have q2 := fin u s h2
      simp only [List.cons_append, List.nil_append] at q1 q2
      rw [q1, q2] at q
      subst q
      have e3 := List.append_cancel_left e
      rw [ih (fun x hx => ha x (List.mem_cons_of_mem _ hx)) (fun x hx => hb x (List.mem_cons_of_mem _ hx)) e3]
theorem cpsJ_inj {a b : List (List Nat)} (ha : ∀ t ∈ a, 44 ∉ t ∧ t ≠ []) (hb : ∀ t ∈ b, 44 ∉ t ∧ t ≠ []) (e : cpsJ a = cpsJ b) : a = b := by
  cases a with
  | nil =>
    cases b with
    | nil => rfl
    | cons u s =>
      rw [cpsJ_cons] at e
      have := (hb u List.mem_cons_self).2
      simp [cpsJ] at e
      exact absurd e.1 this
  | cons t r =>
    cases b with
    | nil =>
      rw [cpsJ_cons] at e
      have := (ha t List.mem_cons_self).2
      simp [cpsJ] at e
      exact absurd e.1 this
    | cons u s =>
      have e2 : ((t :: r).map fun t => [44, 32] ++ t).flatten = ((u :: s).map fun t => [44, 32] ++ t).flatten := by
        rw [cpsJ_cons, cpsJ_cons] at e
        simp only [List.map_cons, List.flatten_cons, List.append_assoc]
        rw [e]
      exact tail_inj (fun x hx => (ha x hx).1) (fun x hx => (hb x hx).1) e2
theorem ofString_inj {s t : String} (h : Str.ofString s = Str.ofString t) : s = t := by
  rw [Str.ofString_eq_toList, Str.ofString_eq_toList] at h
  have h : (s.toList.map Char.toNat) = (t.toList.map Char.toNat) := by simpa using h
  have := List.map_inj_right (f := Char.toNat) (fun a b e => Char.toNat_inj.mp e) |>.mp h
  exact String.toList_inj.mp this
theorem int_cps (i : Int) : 44 ∉ (PyData.int i).shown.cps.toList ∧ (PyData.int i).shown.cps.toList ≠ [] := by
  rw [PyData.shown]
  show 44 ∉ (Str.ofString (toString i)).cps.toList ∧ _
  rw [Str.ofString_eq_toList]
  have key : ∀ n : Nat, ∀ c ∈ (toString n).toList, c.isDigit = true := fun n c hc => by
    rw [Nat.toString_eq_ofList_toDigits, String.toList_ofList] at hc
    exact Nat.isDigit_of_mem_toDigits (b := 10) (by decide) (by decide) hc
  have dg : ∀ c : Char, c.isDigit = true → c.toNat ≠ 44 := fun c h => by
    unfold Char.isDigit at h
    simp only [Bool.and_eq_true, decide_eq_true_eq] at h
    have := h.1
    intro z
    have h2 : (48 : UInt32) ≤ c.val := h.1
    have h3 : 48 ≤ c.val.toNat := by simpa [UInt32.le_iff_toNat_le] using h2
    have : c.toNat = c.val.toNat := rfl
    omega
  have ne : ∀ n : Nat, (toString n).toList ≠ [] := fun n => by
    rw [Nat.toString_eq_ofList_toDigits, String.toList_ofList]
    exact Nat.toDigits_ne_nil
  cases i with
  | ofNat n =>
    have e : (toString (Int.ofNat n)) = toString n := rfl
    rw [e]
    refine ⟨fun h => ?_, fun h => ne n (List.map_eq_nil_iff.mp h)⟩
    obtain ⟨c, hc, e⟩ := List.mem_map.mp h
    exact dg c (key n c hc) e
  | negSucc n =>
    have e : (toString (Int.negSucc n)) = "-" ++ toString (n + 1) := rfl
    rw [e]
    refine ⟨fun h => ?_, fun h => by simp at h⟩
    obtain ⟨c, hc, e⟩ := List.mem_map.mp h
    rw [String.toList_append] at hc
    rcases List.mem_append.mp hc with hc | hc
    · have : c = '-' := by simpa using hc
      subst this
      exact absurd e (by decide)
    · exact dg c (key (n + 1) c hc) e
theorem int_shown_inj {i j : Int} (h : (PyData.int i).shown = (PyData.int j).shown) : i = j := by
  rw [PyData.shown, PyData.shown] at h
  have h : toString i = toString j := ofString_inj h
  have a := Int.toInt?_repr i
  have b := Int.toInt?_repr j
  have h : i.repr = j.repr := h
  rw [h, b] at a
  exact (Option.some.inj a).symm
theorem shownAll_map (c : List Int) : PyData.shownAll (c.map PyData.int) = c.map fun i => (PyData.int i).shown := by
  induction c with
  | nil => rw [List.map_nil, PyData.shownAll]; rfl
  | cons i r ih => rw [List.map_cons, PyData.shownAll, ih]; rfl
theorem ints_shown_inj {c d : List Int} (h : (gIL c).shown = (gIL d).shown) : c = d := by
  unfold gIL at h
  rw [PyData.shown, PyData.shown, shownAll_map, shownAll_map] at h
  have h := congrArg (fun x : Str => x.cps.toList) h
  rw [listText_cps, listText_cps] at h
  have h := List.append_cancel_right h
  have h := List.append_cancel_left h
  have h := cpsJ_inj (by
    intro t ht
    rw [List.map_map] at ht
    obtain ⟨i, _, rfl⟩ := List.mem_map.mp ht
    exact int_cps i) (by
    intro t ht
    rw [List.map_map] at ht
    obtain ⟨i, _, rfl⟩ := List.mem_map.mp ht
    exact int_cps i) h
  rw [List.map_map, List.map_map] at h
  refine List.map_inj_right (f := (fun t : Str => t.cps.toList) ∘ fun i => (PyData.int i).shown) (fun a b e => ?_) |>.mp h
  refine int_shown_inj ?_
  have e : (PyData.int a).shown.cps.toList = (PyData.int b).shown.cps.toList := e
  have e2 := Array.toList_inj.mp e
  revert e2
  generalize (PyData.int a).shown = x
  generalize (PyData.int b).shown = y
  intro e2
  cases x; cases y
  exact congrArg _ e2
end DL

/-! All crowds to which a crowd leads: the plain facts, and the program's search. -/
namespace DL
open PySem PySem.Spec PyProof.Rows L2
instance iIT : En2 eIT := iT Dv.int
abbrev Mo := Nat × Nat × Nat
def eMo (m : Mo) : Dv := eI3 m.1 m.2.1 m.2.2
def mvP (c : List Int) (m : Mo) : Option (List Int) := movO c m.1 m.2.1 m.2.2
/-- the indexes of a rule's kinds -/
def plc (ks : List Nm) (r : Ru) : Mo := (ixOf r.1 ks, ixOf r.2.1 ks, ixOf r.2.2 ks)
theorem mv_plc {ks : List Nm} {c : List Int} {r : Ru} : mv ks c r = mvP c (plc ks r) := rfl
theorem dI_plc {ks : List Nm} {r : Ru} : dI ks r = eMo (plc ks r) := rfl
inductive Reach (ms : List Mo) : List Int → List Int → Prop
  | refl (c : List Int) : Reach ms c c
  | step {c d e : List Int} {m : Mo} (h : Reach ms c d) (hm : m ∈ ms) (hv : mvP d m = some e) : Reach ms c e
/-- moves within so many kinds -/
structure Mok (n : Nat) (m : Mo) : Prop where
  a : m.1 < n
  b : m.2.1 < n
  c : m.2.2 < n
  ne : m.2.2 ≠ m.1
theorem Reach.mono {ms ms' : List Mo} (hs : ∀ m ∈ ms, m ∈ ms') {c d : List Int} (h : Reach ms c d) : Reach ms' c d := by
  induction h with
  | refl => exact .refl _
  | step _ hm hv ih => exact .step ih (hs _ hm) hv
theorem Reach.trans {ms : List Mo} {c d e : List Int} (h : Reach ms c d) (g : Reach ms d e) : Reach ms c e := by
  induction g with
  | refl => exact h
  | step _ hm hv ih => exact .step ih hm hv
/-! ### what stays -/
theorem sum_set : ∀ {c : List Int} {i : Nat} {x : Int}, i < c.length → (c.set i x).sum = c.sum - nth' c i + x
  | a :: r, 0, x, _ => by simp [nth']; omega
  | a :: r, i + 1, x, h => by
    have := sum_set (c := r) (i := i) (x := x) (by simpa using h)
    rw [List.set_cons_succ, List.sum_cons, List.sum_cons, this]
    have e : nth' (a :: r) ((i + 1 : Nat) : Int) = nth' r i := by
      unfold nth'
      rw [Int.toNat_natCast, Int.toNat_natCast, List.getElem?_cons_succ]
    rw [e]
    omega
/-- a crowd: so many kinds, no number negative, so many members -/
structure Crd (n : Nat) (s : Int) (c : List Int) : Prop where
  len : c.length = n
  pos : ∀ x ∈ c, 0 ≤ x
  sum : c.sum = s
theorem nthget {c : List Int} {i : Nat} (h : i < c.length) : c[i]? = some (nth' c i) := by
  unfold nth'
  rw [Int.toNat_natCast, List.getElem?_eq_getElem h]
  rfl
theorem nth_mem {c : List Int} {i : Nat} (h : i < c.length) : nth' c i ∈ c := List.mem_of_getElem? (nthget h)
theorem Crd.mv {n : Nat} {s : Int} {c d : List Int} {m : Mo} (h : Crd n s c) (hm : Mok n m) (hv : mvP c m = some d) : Crd n s d := by
  unfold mvP movO at hv
  split at hv
  · rename_i ha
    cases hv
    have hf : m.1 < c.length := by rw [h.len]; exact hm.a
    have ht : m.2.2 < c.length := by rw [h.len]; exact hm.c
    have ha : 1 ≤ nth' c m.1 := by
      unfold able1 at ha
      simp only [Bool.and_eq_true, decide_eq_true_eq] at ha
      exact ha.1
    have e : nth' (c.set m.1 (nth' c m.1 - 1)) (m.2.2 : Int) = nth' c m.2.2 := by
      unfold nth'
      simp only [Int.toNat_natCast]
      rw [List.getElem?_set_ne (Ne.symm hm.ne)]
    have p2 := h.pos _ (nth_mem ht)
    refine ⟨by unfold stp; simp [h.len], fun x hx => ?_, ?_⟩
    · unfold stp at hx
      dsimp only at hx
      rw [e] at hx
      rcases List.mem_or_eq_of_mem_set hx with hx | hx
      · rcases List.mem_or_eq_of_mem_set hx with hx | hx
        · exact h.pos x hx
        · omega
      · omega
    · unfold stp
      dsimp only
      rw [sum_set (by rw [List.length_set]; exact ht), sum_set hf, e, h.sum]
      omega
  · cases hv
theorem Crd.reach {n : Nat} {s : Int} {c d : List Int} {ms : List Mo} (h : Crd n s c) (hm : ∀ m ∈ ms, Mok n m) (g : Reach ms c d) : Crd n s d := by
  induction g with
  | refl => exact h
  | step _ hx hv ih => exact ih.mv (hm _ hx) hv
/-! ### how many there are -/
def allL (s : Nat) : Nat → List (List Int)
  | 0 => [[]]
  | n + 1 => (List.range (s + 1)).flatMap fun (x : Nat) => (allL s n).map fun l => (x : Int) :: l
theorem allL_len (s : Nat) : ∀ n, (allL s n).length = (s + 1) ^ n
  | 0 => rfl
  | n + 1 => by
    unfold allL
    rw [List.length_flatMap]
    simp only [List.length_map, allL_len s n]
    rw [List.map_const', List.sum_replicate_nat, List.length_range, Nat.pow_succ, Nat.mul_comm]
theorem mem_allL {s : Nat} : ∀ {n : Nat} {c : List Int}, c.length = n → (∀ x ∈ c, 0 ≤ x ∧ x ≤ s) → c ∈ allL s n
  | 0, [], _, _ => by simp [allL]
  | n + 1, a :: r, h, hb => by
    unfold allL
    rw [List.mem_flatMap]
    have ha := hb a List.mem_cons_self
    refine ⟨a.toNat, by rw [List.mem_range]; omega, List.mem_map.mpr ⟨r, mem_allL (by simpa using h) fun x hx => hb x (List.mem_cons_of_mem _ hx), ?_⟩⟩
    rw [Int.toNat_of_nonneg ha.1]
theorem le_sum : ∀ {c : List Int}, (∀ x ∈ c, 0 ≤ x) → 0 ≤ c.sum ∧ ∀ x ∈ c, x ≤ c.sum
  | [], _ => ⟨by simp, fun _ h => nomatch h⟩
  | a :: r, h => by
    have ⟨h1, h2⟩ := le_sum (c := r) fun x hx => h x (List.mem_cons_of_mem _ hx)
    have ha := h a List.mem_cons_self
    rw [List.sum_cons]
    refine ⟨by omega, fun x hx => ?_⟩
    rcases List.mem_cons.mp hx with rfl | hx
    · omega
    · have := h2 x hx; omega
theorem crd_len {n s : Nat} {L : List (List Int)} (hn : L.Nodup) (h : ∀ c ∈ L, Crd n s c) : L.length ≤ (s + 1) ^ n := by
  rw [← allL_len s n]
  refine hn.length_le_of_subset fun c hc => ?_
  have k := h c hc
  have := le_sum k.pos
  rw [k.sum] at this
  exact mem_allL k.len fun x hx => ⟨k.pos x hx, this.2 x hx⟩
/-! ### the search -/
structure Bf (ms : List Mo) (c : List Int) (a : Nat) (L : List (List Int)) : Prop where
  nd : L.Nodup
  sub : ∀ x ∈ L, Reach ms c x
  c0 : c ∈ L
  done : ∀ i x, i < a → L[i]? = some x → ∀ m ∈ ms, ∀ e, mvP x m = some e → e ∈ L
theorem Bf.begin (ms : List Mo) (c : List Int) : Bf ms c 0 [c] := ⟨by simp, fun x hx => by rw [List.mem_singleton] at hx; subst hx; exact .refl _, by simp, fun i _ h => absurd h (by omega)⟩
theorem Bf.fin {ms : List Mo} {c : List Int} {a : Nat} {L : List (List Int)} (h : Bf ms c a L) (ha : L.length ≤ a) : ∀ x, x ∈ L ↔ Reach ms c x := fun x => by
  refine ⟨h.sub x, fun g => ?_⟩
  induction g with
  | refl => exact h.c0
  | step _ hm hv ih =>
    obtain ⟨i, hi⟩ := List.mem_iff_getElem?.mp ih
    exact h.done i _ (by have := (List.getElem?_eq_some_iff.mp hi).1; omega) hi _ hm _ hv
/-- within the turn of the a-th crowd: these moves are left -/
structure Bt (ms : List Mo) (c : List Int) (a : Nat) (x : List Int) (r : List Mo) (L : List (List Int)) : Prop where
  bf : Bf ms c a L
  at_ : L[a]? = some x
  rest : ∀ m ∈ ms, m ∈ r ∨ ∀ e, mvP x m = some e → e ∈ L
theorem Bf.turn {ms : List Mo} {c x : List Int} {a : Nat} {L : List (List Int)} (h : Bf ms c a L) (hx : L[a]? = some x) : Bt ms c a x ms L := ⟨h, hx, fun _ hm => .inl hm⟩
theorem Bt.done {ms : List Mo} {c x : List Int} {a : Nat} {L : List (List Int)} (h : Bt ms c a x [] L) : Bf ms c (a + 1) L := by
  refine ⟨h.bf.nd, h.bf.sub, h.bf.c0, fun i y hi hy m hm e he => ?_⟩
  by_cases hia : i = a
  · subst hia
    rw [h.at_] at hy
    cases hy
    exact ((h.rest m hm).resolve_left (by simp)) e he
  · exact h.bf.done i y (by omega) hy m hm e he
theorem Bt.skip {ms : List Mo} {c x : List Int} {a : Nat} {L : List (List Int)} {m : Mo} {r : List Mo} (h : Bt ms c a x (m :: r) L) (hs : ∀ e, mvP x m = some e → e ∈ L) : Bt ms c a x r L :=
  ⟨h.bf, h.at_, fun m' hm => by
    rcases h.rest m' hm with g | g
    · rcases List.mem_cons.mp g with rfl | g
      · exact .inr hs
      · exact .inl g
    · exact .inr g⟩
theorem Bt.add {ms : List Mo} {c x e : List Int} {a : Nat} {L : List (List Int)} {m : Mo} {r : List Mo} (h : Bt ms c a x (m :: r) L) (hm : m ∈ ms) (he : mvP x m = some e) (hn : e ∉ L) : Bt ms c a x r (L ++ [e]) := by
  have hal := (List.getElem?_eq_some_iff.mp h.at_).1
  refine ⟨⟨?_, fun y hy => ?_, List.mem_append_left _ h.bf.c0, fun i y hi hy m' hm' e' he' => ?_⟩, ?_, fun m' hm' => ?_⟩
  · rw [List.nodup_append]
    refine ⟨h.bf.nd, by simp, fun y hy z hz => ?_⟩
    rw [List.mem_singleton] at hz
    subst hz
    intro q
    exact hn (q ▸ hy)
  · rcases List.mem_append.mp hy with hy | hy
    · exact h.bf.sub y hy
    · rw [List.mem_singleton] at hy
      subst hy
      exact .step (h.bf.sub x (List.mem_of_getElem? h.at_)) hm he
  · rw [List.getElem?_append_left (by omega)] at hy
    exact List.mem_append_left _ (h.bf.done i y hi hy m' hm' e' he')
  · rw [List.getElem?_append_left hal]; exact h.at_
  · rcases h.rest m' hm' with g | g
    · rcases List.mem_cons.mp g with rfl | g
      · exact .inr fun e' he' => by rw [he] at he'; cases he'; simp
      · exact .inl g
    · exact .inr fun e' he' => List.mem_append_left _ (g e' he')
/-! ### dicts of crowds -/
def dT (L : List (List Int)) : List (List L2.Key × Dv) := L.map fun c => (c.map Sum.inl, .bl true)
theorem keyT_eIT (c : List Int) : keyT (eIT c) = some (c.map Sum.inl) := by
  show keyKs (c.map .int) = _
  induction c with
  | nil => rfl
  | cons a r ih => rw [List.map_cons, keyKs, ih]; rfl
theorem inl_inj {c d : List Int} : (c.map Sum.inl : List L2.Key) = d.map Sum.inl ↔ c = d := List.map_inj_right fun a b e => Sum.inl.inj e
theorem valG_dT {c : List Int} : ∀ {L : List (List Int)}, valG (dT L) (c.map Sum.inl) = if c ∈ L then some (.bl true) else none
  | [] => rfl
  | d :: r => by
    have ih := valG_dT (c := c) (L := r)
    unfold dT at ih ⊢
    rw [List.map_cons, valG_cons, ih]
    by_cases h : d = c
    · subst h; simp
    · have : ¬ (d.map Sum.inl : List L2.Key) = c.map Sum.inl := fun z => h (inl_inj.mp z)
      rw [if_neg this]
      simp [List.mem_cons, Ne.symm h]
theorem putG_dT {c : List Int} {L : List (List Int)} (h : c ∉ L) : putG (dT L) (c.map Sum.inl) (.bl true) = dT (L ++ [c]) := by
  unfold putG
  rw [if_neg]
  · unfold dT; rw [List.map_append]; rfl
  · simp only [dT, List.any_map, List.any_eq_true, Function.comp_apply, decide_eq_true_eq, not_exists, not_and]
    intro d hd z
    exact h (inl_inj.mp z ▸ hd)
section
variable {S : Sto} {ρ : En}
def inO (neg : Bool) (d : Dv) (S : Sto) : Option Ob → Re Dv
  | some (.dic l) => match (keyT d).map fun k => valG l k with
    | some o => .ok (.bl (xor neg o.isSome)) S
    | none => .bad
  | some (.dik l) => match (keyK d).map fun k => valG l k with
    | some o => .ok (.bl (xor neg o.isSome)) S
    | none => .bad
  | _ => .bad
theorem inM_cell {neg : Bool} {d : Dv} {k : Nat} : inM neg d (.cell k) S = inO neg d S S[k]? := by
  unfold inM inO getM
  (try dsimp only)
  all_goals cases S[k]? with
  | none => rfl
  | some o => cases o <;> rfl
theorem oInM_cell {d : Dv} {k : Nat} : oInM d (.cell k) S = inO false d S S[k]? := inM_cell
theorem oNotInM_cell {d : Dv} {k : Nat} : oNotInM d (.cell k) S = inO true d S S[k]? := inM_cell
theorem inO_dT {neg : Bool} {c : List Int} {L : List (List Int)} : inO neg (eIT c) S (some (.dic (dT L))) = .ok (.bl (xor neg (decide (c ∈ L)))) S := by
  unfold inO
  dsimp only
  rw [keyT_eIT, Option.map_some, valG_dT]
  by_cases h : c ∈ L <;> simp [h]
def putS (ρ : En) : Option Sto → SRe
  | some S => .nx ρ S
  | none => .bad
theorem putS_some : putS ρ (some S) = .nx ρ S := id rfl
theorem ap_sPutM {fe fi fv : Ex} : sPutM fe fi fv ρ S = (fv ρ S).toS ρ fun v S1 => (fe ρ S1).toS ρ fun e S2 => (fi ρ S2).toS ρ fun d S3 => putS ρ (putM e d v S3) := id rfl
def putMO (k : Nat) (d v : Dv) (S : Sto) : Option Ob → Option Sto
  | some (.dic l) => match keyT d with
      | some q => if l.length < sizeLine then some (S.set k (.dic (putG l q v))) else none
      | none => none
  | some (.dik l) => match keyK d with
      | some q => if l.length < sizeLine then some (S.set k (.dik (putG l q v))) else none
      | none => none
  | _ => none
theorem putM_cell {k : Nat} {d v : Dv} : putM (.cell k) d v S = putMO k d v S S[k]? := by
  unfold putM putMO
  (try dsimp only)
  all_goals cases S[k]? with
  | none => rfl
  | some o => cases o <;> rfl
theorem putMO_dT {k : Nat} {c : List Int} {L : List (List Int)} (h : c ∉ L) (hl : L.length < 16777216) : putMO k (eIT c) (.bl true) S (some (.dic (dT L))) = some (S.set k (.dic (dT (L ++ [c])))) := by
  unfold putMO
  dsimp only
  rw [keyT_eIT]
  dsimp only
  rw [if_pos (by rw [sizeLine_is]; unfold dT; rw [List.length_map]; exact hl), putG_dT h]
theorem ap_eDic1 {fk fv : Ex} : eDic1 fk fv ρ S = (fk ρ (S ++ [.dic []])).bind fun x S1 => (fv ρ S1).bind fun y S2 => dicK S.length x y S2 := id rfl
def dicO (k : Nat) (c : List Int) (S : Sto) : Option Ob → Re Dv
  | some (.dic []) => .ok (.cell k) (S.set k (.dic (dT [c])))
  | _ => .bad
theorem dicK_eIT {k : Nat} {c : List Int} : dicK k (eIT c) (.bl true) S = dicO k c S S[k]? := by
  unfold dicK dicO
  rw [keyT_eIT]
  cases S[k]? with
  | none => rfl
  | some o =>
    cases o with
    | dic l => cases l <;> rfl
    | _ => rfl
theorem dicO_nil {k : Nat} {c : List Int} : dicO k c S (some (.dic [])) = .ok (.cell k) (S.set k (.dic (dT [c]))) := id rfl
end
/-! ### the program's search -/
/-- while: a number falls -/
theorem while_nat {t : Tt} {b : Sm} {ρ : En} {S : Sto} {rest : List Sm} {P : SRe → Prop} (I : Nat → En → Sto → Prop) {m : Nat} (h0 : I m ρ S)
    (hs : ∀ m ρ S, I m ρ S → ∃ c S1, t ρ S = .ok c S1 ∧ (c = true → Hold (b ρ S1) [] (Nxt always (fun ρ' S' => ∃ m', m' < m ∧ I m' ρ' S') rest P)) ∧ (c = false → Hold (.nx ρ S1) rest P)) : Hold (sWhile t b ρ S) rest P :=
  while_hold (β := Nat) (· < ·) Nat.lt_wfRel.wf I h0 fun m ρ S h => by
    obtain ⟨c, S1, h1, h2, h3⟩ := hs m ρ S h
    exact ⟨c, S1, h1, fun hc => ⟨_, rfl, h2 hc⟩, h3⟩
section
variable {S : Sto}
theorem isn_eMo {m : Mo} : eMo m = eI3 m.1 m.2.1 m.2.2 := id rfl
local macro_rules | `(tactic| exists $es,*) => `(tactic| simp (disch := first | omega | assumption | (simp only [*, Option.isSome_some, List.length_map, List.length_set]; done) | (simp only [*, Option.isSome_some, List.length_map, List.length_set]; omega)) only [DL.fmi_int, DL.fmi_nm, DL.fmi_eR, DL.hold_seq, DL.hold_nx, DL.hold_nx0, DL.hold_ret, DL.hold_brk, DL.hold_ct, DL.hold_exc, DL.toR_nx, DL.toR_ret, DL.toR_exc, DL.bnd_ok, DL.bnd_exc, DL.toS_ok, DL.toS_exc, DL.opt_some, DL.condR_true, DL.condR_of, DL.condS_true, DL.condS_of, DL.condR_bind, DL.condR_toS, DL.condR_condR, DL.getV_some, DL.ap_eV, DL.ap_eC, DL.ap_e1, DL.ap_e2, DL.ap_aNil, DL.ap_aCons, DL.ap_eN, DL.ap_eCall, DL.ap_eCallK, DL.ap_eMth, DL.ap_eMth0, DL.ap_eMthK, DL.ap_eM, DL.asB_bl, DL.ap_tV, DL.ap_tAnd, DL.ap_tOr, DL.ap_tNot, DL.ap_tYes, DL.ap_eIf, DL.andK_bl, DL.orK_bl, DL.ap_eAnd, DL.ap_eOr, DL.ap_uNot, DL.ap_uNeg, DL.ap_xNone, DL.asO_int, DL.ap_xSome, DL.ap_eSl, DL.chK_int, DL.ap_eCh, DL.ap_sNil, DL.ap_sBrk, DL.ap_sCt, DL.ap_sExpr, DL.ap_sRet, DL.ap_sSet, DL.ap_sIf, DL.ap_sAsg, DL.parK_ok, DL.ap_sPar, DL.ap_sRaise, DL.ap_sFld, DL.ap_gN, DL.ap_gTp, DL.ap_gsNil, DL.gsK_some, DL.ap_gsCons, DL.gUl_lst, DL.ap_gUl, DL.ap_gIx, DL.ixK_cell, DL.ixK2_int, DL.putO_lst, DL.putO_0, DL.putO_1, DL.putO_2, DL.asL_lst, DL.asR_lst, DL.asR_ro, DL.asQ_lst, DL.asQ_ro, DL.asQ_tup, DL.asQ_ktup, DL.lstO_lst, DL.asL_cell, DL.asR_cell, DL.asQ_cell, DL.isL_def, DL.add_int, DL.oI_int, DL.oIc_int, DL.oB_int, DL.is_non, DL.is_int, DL.is_str, DL.is_lst, DL.is_tup, DL.is_cell, DL.isn_non, DL.isn_int, DL.isn_str, DL.isn_lst, DL.isn_tup, DL.isn_cell, DL.mkT_ok, DL.mkL_ok, DL.mkC_ok, DL.add_lst, DL.addK_ok, DL.addC_ap, DL.lenO_some, DL.len_cell, DL.len_lst, DL.len_tup, DL.len_ktup, DL.len_ro, DL.bLen_of, DL.bInt_int, DL.bInt_bl, DL.bAbs_int, DL.bMax_int, DL.bMin_int, DL.lstK_some, DL.lstCK_some, DL.tupK_some, DL.ktupK_some, DL.bList_of, DL.bListC_of, DL.bTuple_tup, DL.tuple_cell, DL.tuple_lst, DL.tuple_ro, DL.tuple_ktup, DL.bTuple_of, DL.bTupleK_of, DL.mApp_ap, DL.appO_lst, DL.mPopAt_ap, DL.mulL_2, DL.someR_ok, DL.ixO_some, DL.ix_cell, DL.ix_lst, DL.ix_tup, DL.ix_ktup, DL.ix_ro, DL.ix_of, DL.sl_tup, DL.sl_lst, DL.slK_some, DL.sl_cell, DL.cut_take, DL.cut_drop, DL.take_map, DL.drop_map, DL.atI_map, DL.atI_0, DL.atI_1, DL.atI_2, DL.atI_3, DL.wipe_nil, DL.wipe_cons, DL.noexc_k, DL.noexc_c, DL.ap_turn, DL.trnK_some, DL.ap_lcD, DL.ap_eLc, DL.ap_eLcC, DL.lcK_typed, DL.lcT_ok, DL.lcT_cond, DL.always_is, DL.ite_ok, DL.ite_int, DL.ite_bl, DL.fm_int, DL.fm_bl, DL.fm_str, DL.fm_if, DL.ap_iSeq, DL.it_lst, DL.it_ro, DL.it_tup, DL.it_ktup, DL.itO_lst, DL.it_cell, DL.any_lst, DL.all_lst, DL.any_map', DL.all_map', DL.push_len, DL.push_push, DL.get_0, DL.get_1, DL.get_2, DL.set_0, DL.set_1, DL.set_2, DL.set_len, DL.set_set, DL.get_app, DL.set_app, DL.get_aft, DL.get_aft0, DL.set_aft, DL.set_aft0, DL.str_eq, DL.int_eq, DL.ints_eq, DL.intsT_eq, DL.id_is, DL.eq_nn, DL.eq_nilI, DL.eq_nilN, DL.sum_lst, DL.set_ints, DL.app_ints, DL.ite_true', DL.ite_false', DL.pickO_some, DL.pick_nil, DL.pick_cons, DL.fzR_py, DL.fz_non, DL.fz_nonT, DL.fz_int, DL.fz_intT, DL.fz_bl, DL.fz_blT, DL.fz_ints, DL.fz_intsT, DL.fz_tints, DL.fz_tintsT, DL.nxt_nx, DL.nxt_ct, DL.nxt_brk, DL.nxt_ret, DL.nxt_exc, DL.ap_iRg1, DL.ap_iRg2, DL.rgK_ok, DL.rgK2_ok, DL.ap_iEn, DL.enK_lst, DL.enK_ro, DL.ap_iZp, DL.zpK_tup, DL.zpK_lst, DL.turn_eI, DL.turn_eP, DL.len_str, DL.it_str, DL.in_ch, DL.app_map, DL.it_eR, DL.ix_eR0, DL.ix_eR1, DL.ix_eR2, DL.eq_nm, DL.eq_eR, DL.is_eR, DL.isn_eR, DL.eq_nilR, DL.rl_len, DL.atI_ix, DL.it_dI, DL.map_dI, DL.fm_eR, DL.fm_nm, DL.tup3_eR, DL.app_rs, DL.map_id'', DL.fm_dI, DL.tup_eR, DL.eta_nm, DL.eta_eR, DL.eta_dI, DL.bk_kinds, DL.bk_rules, DL.bk_of, DL.fz_nms, DL.fz_rs, DL.fz_bk, DL.kinds_ok, DL.rules_ok, DL.blen_ok, DL.prp_bk, DL.ins_bk1, DL.in_ktup, DL.in_rtup, DL.in_rlst, DL.eq_ktup, DL.eq_rtup, DL.eq_rlst, DL.eq_nlst, DL.isi_bk, DL.beq_ok, DL.own_bk, DL.wantB_bl, DL.lenO_bk, DL.isn_eCOL, DL.is_eCOL, DL.is_eCOT, DL.isn_eCOT, DL.it_eIT, DL.is_eIT, DL.repr_lst, DL.repr_tup, DL.repr_cell, DL.repr_eIL, DL.reprT_some, DL.py_int, DL.py_str, DL.py_bl, DL.py_non, DL.py_nm, DL.py_eR, DL.py_eIL, DL.py_lst', DL.py_tup', DL.pys_nil, DL.pys_cons, DL.pys_int, DL.pys_nm, DL.pys_eR, DL.pys_eIL, DL.py_cell', DL.cellPy_lst, DL.pyp_int, DL.pyp_nm, DL.pyp_eR, DL.pyp_eIL, DL.ix_pl0, DL.ix_pl1, DL.fm_lI, DL.it_lI, DL.par3K_ok, DL.ap_sPar3, DL.unset_nx, DL.unset_ct, DL.unset_brk, DL.unset_ret, DL.hold_try, DL.catch_nx, DL.catch_ct, DL.catch_brk, DL.catch_ret, DL.catch_exc, DL.hold_cat, DL.cat_no, DL.eO_ok, DL.sl_str, DL.add_str', DL.ix_str, DL.add_tup, DL.mul_9, DL.oInM_cell, DL.oNotInM_cell, DL.inO_dT, DL.putS_some, DL.ap_sPutM, DL.putM_cell, DL.putMO_dT, DL.ap_eDic1, DL.dicK_eIT, DL.dicO_nil, DL.isn_eMo, reduceDIte, Nat.reduceEqDiff, dreduceDIte, Int.reduceNegSucc, Nat.reduceOr, Nat.reducePow, Nat.reduceGT, Nat.reduceBneDiff, Nat.reduceSubDiff, Nat.reduceMod, Int.reduceGE, Int.reduceToNat, Int.reduceEq, dreduceIte, Int.reduceGT, Int.reducePow, Nat.reduceBNe, Int.reduceDiv, Int.reduceMul, reduceCtorEq, Int.reduceBEq, Nat.reduceBeqDiff, String.reduceNe, String.reduceBNe, Int.reduceNe, String.reduceBEq, Int.reduceSub, Int.reduceAbs, Int.reduceLT, Int.reduceNeg, Nat.reduceDiv, Int.reduceBNe, Int.reduceDvd, Int.reduceAdd, Nat.reduceBEq, Nat.reduceSucc, String.reduceEq, Int.reduceLE, Int.reduceMod, reduceIte, Int.reduceFDiv, Int.reduceFMod, startD, List.map_cons, List.map_nil, List.length_cons, List.length_nil, List.replicate_succ, List.replicate_zero, Nat.reduceAdd, Nat.reduceSub, Nat.reduceMul, List.cons_append, List.nil_append, List.getElem?_cons_zero, List.getElem?_cons_succ, List.set_cons_zero, List.set_cons_succ, ↓reduceIte, decide_eq_true_eq, Bool.false_eq_true, Int.natCast_inj, Int.toNat_natCast, Option.isSome_some, Option.isSome_none, Option.isNone_none, Option.isNone_some, Bool.or_eq_true, Bool.and_eq_true, Bool.not_eq_true', decide_eq_false_iff_not, Bool.not_true, Bool.not_false, beq_self_eq_true, Option.map_some, Option.bind_some, true_and, and_true, false_and, and_false, or_true, true_or, or_false, false_or, Nat.reduceLeDiff, Nat.reduceLT, Bool.false_and, Bool.true_and, Bool.and_false, Bool.and_true, Nat.zero_le, List.length_map, List.length_set, List.length_append, List.length_zipIdx, List.length_range, gt_iff_lt, not_true_eq_false, not_false_eq_true, eq_self, Bool.false_xor, Bool.true_xor, Bool.xor_false, List.not_mem_nil, decide_true, decide_false, $[$es:term],*])
theorem reached_ok {d : Dv} {ms : List Mo} {c : List Int} {n s : Nat} (ht : ∀ S, bTuple [d] S = .ok (eIT c) S) (hc : Crd n s c) (hm : ∀ m ∈ ms, Mok n m) (hb : (s + 1) ^ n ≤ 1000000) :
    ∃ L : List (List Int), m_reached [.lst (ms.map eMo), d] S = .ok (.lst (L.map eIT)) S ∧ L.Nodup ∧ ∀ x, x ∈ L ↔ Reach ms c x := by
  refine fz_ex (n := 7) (f := b_reached) (fun q => ∃ L : List (List Int), q = .ok (.lst (L.map eIT)) S ∧ L.Nodup ∧ ∀ x, x ∈ L ↔ Reach ms c x) ?_
  exists b_reached, ht
  have lens : ∀ {a L}, Bf ms c a L → L.length ≤ 1000000 := fun h => Nat.le_trans (crd_len h.nd fun x hx => hc.reach hm (h.sub x hx)) hb
  refine while_nat (fun k ρ S' => ∃ (a : Nat) (L : List (List Int)) (x y : Option Dv), k = 1000000 - a ∧ a ≤ L.length ∧ S' = S ++ [.lst (L.map eIT), .dic (dT L)] ∧
    ρ = [some (.lst (ms.map eMo)), some d, some (.cell S.length), some (.cell (S.length + 1)), some (.int a), x, y] ∧ Bf ms c a L) (m := 1000000) ⟨0, [c], none, none, rfl, by simp, rfl, rfl, .begin ms c⟩ ?_
  rintro k ρ S' ⟨a, L, x, y, rfl, hal, rfl, rfl, bf⟩
  have hL := lens bf
  refine ⟨decide (a < L.length), _, by exists hal, Int.ofNat_lt; exact rfl, fun ha => ?_, fun ha => ?_⟩
  · have ha := of_decide_eq_true ha
    obtain ⟨z, hz⟩ : ∃ z, L[a]? = some z := ⟨L[a], List.getElem?_eq_getElem ha⟩
    exists id_is
    refine for_hold (enc := eMo) (xs := ms) (chk := always) (S1 := S ++ [.lst (L.map eIT), .dic (dT L)]) (fun r ρ S' => ∃ (L : List (List Int)) (x y : Option Dv), S' = S ++ [.lst (L.map eIT), .dic (dT L)] ∧
      ρ = [some (.lst (ms.map eMo)), some d, some (.cell S.length), some (.cell (S.length + 1)), some (.int a), x, y] ∧ Bt ms c a z r L) ?_ trivial ⟨L, x, y, rfl, rfl, bf.turn hz⟩ ?_ ?_
    · exists id_is
    · rintro m r ρ S' hmm ⟨L, x, y, rfl, rfl, bt⟩
      have hz := bt.at_
      have hL := lens bt.bf
      have hlt := (List.getElem?_eq_some_iff.mp hz).1
      have hk := hm m hmm
      have kz := hc.reach hm (bt.bf.sub z (List.mem_of_getElem? hz))
      have ez : nth' L (a : Int) = z := by unfold nth'; rw [Int.toNat_natCast, hz]; rfl
      have hv := moved_ok (S := S ++ [.lst (L.map eIT), .dic (dT L)]) (d := eIT z) (c := z) (f := m.1) (w := m.2.1) (t := m.2.2) (.tup _) (by rw [kz.len]; exact hk.a) (by rw [kz.len]; exact hk.b) (by rw [kz.len]; exact hk.c)
      exists ez, hv
      cases he : movO z m.1 m.2.1 m.2.2 with
      | none =>
        exists eCO
        exact ⟨L, _, _, rfl, rfl, bt.skip fun e h => by unfold mvP at h; rw [he] at h; cases h⟩
      | some e =>
        by_cases hin : e ∈ L
        · exists eCO, hin
          exact ⟨L, _, _, rfl, rfl, bt.skip fun e' h => by unfold mvP at h; rw [he] at h; cases h; exact hin⟩
        · exists eCO, hin
          exact ⟨L ++ [e], _, _, rfl, rfl, bt.add hmm he hin⟩
    · rintro ρ S' ⟨L, x, y, rfl, rfl, bt⟩
      have hlt := (List.getElem?_eq_some_iff.mp bt.at_).1
      exists id_is
      refine ⟨1000000 - (a + 1), ?_, a + 1, L, x, y, rfl, hlt, rfl, rfl, bt.done⟩
      have := lens bt.bf
      omega
  · have ha := of_decide_eq_false ha
    exists id_is
    refine ⟨L, ?_, bf.nd, bf.fin (by omega)⟩
    refine fzR_app ?_ (en_low (iL eIT) _ L)
    unfold frz
    rw [if_pos (by omega), get_0]
    show Dv.lst ((L.map eIT).map (frz _ _ 7)) = _
    rw [frzs_py 7 (pyPs_en (f := eIT) L)]
end
end DL

/-! Rules that follow from others: the program. -/
namespace DL
open PySem PySem.Spec PyProof.Rows L2
instance iMo : En2 eMo := ⟨fun m => (iT Dv.int).g [(m.1 : Int), (m.2.1 : Int), (m.2.2 : Int)], 1, fun m => (iT Dv.int).py [(m.1 : Int), (m.2.1 : Int), (m.2.2 : Int)], fun m => (iT Dv.int).lay _, fun m => (iT Dv.int).depth _, fun a b => by
  rw [(iT Dv.int).eqv]
  obtain ⟨a1, a2, a3⟩ := a
  obtain ⟨b1, b2, b3⟩ := b
  simp only [List.cons.injEq, Int.natCast_inj, and_true, Prod.mk.injEq]⟩
/-! ### crowds in order -/
theorem alike_ints : ∀ (c d : List Int), PySem.W.alikeAll (c.map .int) (d.map .int) = true
  | [], _ => by rw [List.map_nil, PySem.W.alikeAll]
  | _ :: _, [] => by rw [List.map_cons, List.map_nil, PySem.W.alikeAll]
  | a :: r, b :: s => by rw [List.map_cons, List.map_cons, PySem.W.alikeAll, PySem.W.alike, alike_ints r s]; rfl
theorem toks_ints_inj : ∀ {c d : List Int}, PySem.W.keyToksAll (c.map .int) = PySem.W.keyToksAll (d.map .int) → c = d
  | [], [], _ => rfl
  | [], b :: s, h => by simp [PySem.W.keyToksAll] at h
  | a :: r, [], h => by simp [PySem.W.keyToksAll] at h
  | a :: r, b :: s, h => by
    simp only [List.map_cons, PySem.W.keyToksAll, PySem.W.keyToks, List.cons_append, List.nil_append, List.cons.injEq, Sum.inl.injEq, true_and] at h
    rw [h.1, toks_ints_inj h.2]
noncomputable def sortI (L : List (List Int)) : List (List Int) := L.mergeSort (PySem.W.dataLe false gIL)
theorem sortI_perm (L : List (List Int)) : (sortI L).Perm L := List.mergeSort_perm _ _
theorem dataLe_total {α : Type} (g : α → PyData) : PySem.W.TotalLe (PySem.W.dataLe false g) := PySem.W.sortLe_total _ _ _
theorem sorted_pw {α : Type} (g : α → PyData) (L : List α) : (L.mergeSort (PySem.W.dataLe false g)).Pairwise (fun a b => PySem.W.dataLe false g a b = true) :=
  List.pairwise_mergeSort (fun a b c => (dataLe_total g).trans a b c) (fun a b => by simpa using (dataLe_total g).total a b) L
theorem dataLe_anti {α : Type} {g : α → PyData} {a b : α} (h1 : PySem.W.dataLe false g a b = true) (h2 : PySem.W.dataLe false g b a = true) : PySem.W.keyToks (g a) = PySem.W.keyToks (g b) := by
  have e1 : PyProof.Rows.lexLt itemOrd (PySem.W.keyToks (g b)) (PySem.W.keyToks (g a)) = false := by
    have : (!PyProof.Rows.lexLt itemOrd (PySem.W.keyToks (g b)) (PySem.W.keyToks (g a))) = true := h1
    simpa using this
  have e2 : PyProof.Rows.lexLt itemOrd (PySem.W.keyToks (g a)) (PySem.W.keyToks (g b)) = false := by
    have : (!PyProof.Rows.lexLt itemOrd (PySem.W.keyToks (g a)) (PySem.W.keyToks (g b))) = true := h2
    simpa using this
  exact PyProof.Rows.KeyOrd.total (PyProof.Rows.listOrd PyProof.Rows.itemOrd) (PySem.W.keyToks (g a)) (PySem.W.keyToks (g b)) e2 e1
theorem sort_uniq {α : Type} {g : α → PyData} {L M : List α} (h : L.Perm M) (inj : ∀ a ∈ L, ∀ b ∈ L, PySem.W.keyToks (g a) = PySem.W.keyToks (g b) → a = b) : L.mergeSort (PySem.W.dataLe false g) = M.mergeSort (PySem.W.dataLe false g) := by
  have p1 := List.mergeSort_perm L (PySem.W.dataLe false g)
  have p2 := List.mergeSort_perm M (PySem.W.dataLe false g)
  refine List.Perm.eq_of_pairwise (fun a b ha hb h1 h2 => ?_) (sorted_pw g L) (sorted_pw g M) ((p1.trans h).trans p2.symm)
  exact inj a (p1.mem_iff.mp ha) b (h.mem_iff.mpr (p2.mem_iff.mp hb)) (dataLe_anti h1 h2)
theorem gIL_inj {c d : List Int} (h : PySem.W.keyToks (gIL c) = PySem.W.keyToks (gIL d)) : c = d := by
  unfold gIL at h
  rw [PySem.W.keyToks, PySem.W.keyToks] at h
  exact toks_ints_inj h
theorem sortI_eq {L M : List (List Int)} : sortI L = sortI M ↔ L.Perm M := by
  constructor
  · intro h
    exact ((sortI_perm L).symm.trans (h ▸ List.Perm.refl _)).trans (sortI_perm M)
  · exact fun h => sort_uniq h fun a _ b _ => gIL_inj
def gIT (c : List Int) : PyData := .tuple (c.map .int)
theorem le_gIT : PySem.W.dataLe false gIT = PySem.W.dataLe false gIL := by
  have e : (fun b => PySem.W.keyToks (gIT b)) = fun b => PySem.W.keyToks (gIL b) := by
    funext b
    simp [gIT, gIL, PySem.W.keyToks]
  unfold PySem.W.dataLe
  rw [e]
theorem dep_ints (c : List Int) : PyData.depthAll (c.map .int) = 0 := by
  induction c with
  | nil => rw [List.map_nil, PyData.depthAll]
  | cons a r ih => rw [List.map_cons, PyData.depthAll, ih, PyData.depth]; rfl
noncomputable def sortO (S : Sto) : Option Ob → Re Dv
  | some (.lst l) => bSorted [.lst l] S
  | _ => .bad
theorem sorted_cell {S : Sto} {k : Nat} : bSorted [.cell k] S = sortO S S[k]? := by
  unfold bSorted sortO
  dsimp only
  rw [asR_cell]
  cases S[k]? with
  | none => rfl
  | some o => cases o <;> rfl
theorem sortO_lst {S : Sto} {l : List Dv} : sortO S (some (.lst l)) = bSorted [.lst l] S := id rfl
theorem sorted_eIL {S : Sto} {L : List (List Int)} (h : L.length ≤ 16777216) : bSorted [.lst (L.map eIL)] S = .ok (.lst ((sortI L).map eIL)) S :=
  sorted_by (fun c => py_eIL) (fun a b => by unfold gIL; rw [PySem.W.alike]; exact alike_ints a b) (.inr fun a => rfl) (fun a => by unfold gIL; rw [PyData.depth, dep_ints]; omega) h
/-- typed things sorted by their data -/
theorem sorted_byM {α : Type} {f : α → Dv} {g : α → PyData} {xs : List α} {S : Sto} (hp : ∀ a, toPy S (f a) = some (g a)) (ha : ∀ a ∈ xs, ∀ b ∈ xs, PySem.W.alike (g a) (g b) = true) (ht : (∀ a ∈ xs, tupD (g a) = true) ∨ ∀ a ∈ xs, flatD (g a) = true) (hd : ∀ a ∈ xs, (g a).depth ≤ 16) (hl : xs.length ≤ 16777216) :
    bSorted [.lst (xs.map f)] S = .ok (.lst ((xs.mergeSort (PySem.W.dataLe false g)).map f)) S := by
  have e : sortD (xs.map f) (xs.map g) = (xs.mergeSort (PySem.W.dataLe false g)).map f := by
    unfold sortD
    rw [zip_maps, ← List.map_mergeSort (r := PySem.W.dataLe false g) (f := fun r => (f r, g r)) (s := PySem.W.dataLe false fun b : Dv × PyData => b.2) (fun a _ b _ => rfl), List.map_map]
    rfl
  have o : sortOk (xs.map g) = true := by
    unfold sortOk
    simp only [Bool.and_eq_true, Bool.or_eq_true, List.all_eq_true, List.mem_map, decide_eq_true_eq, List.length_map]
    refine ⟨?_, ?_, ?_, by rw [sizeLine_is]; exact hl⟩
    · rintro _ ⟨a, h1, rfl⟩ _ ⟨b, h2, rfl⟩
      exact ha a h1 b h2
    · rcases ht with h | h
      · exact .inl (by rintro _ ⟨a, h1, rfl⟩; exact h a h1)
      · exact .inr (by rintro _ ⟨a, h1, rfl⟩; exact h a h1)
    · rintro _ ⟨a, h1, rfl⟩
      exact hd a h1
  have p : ∀ l : List α, toPys S (l.map f) = some (l.map g) := by
    intro l
    induction l with
    | nil => rw [List.map_nil, toPys]; rfl
    | cons a r ih => rw [List.map_cons, toPys, hp a, ih]; rfl
  unfold bSorted
  dsimp only
  rw [asR_lst]
  dsimp only
  rw [p xs]
  dsimp only
  rw [if_pos o, e]
theorem sorted_eIT {S : Sto} {L : List (List Int)} (hn : ∀ c ∈ L, c ≠ []) (h : L.length ≤ 16777216) : bSorted [.lst (L.map eIT)] S = .ok (.lst ((sortI L).map eIT)) S := by
  rw [sorted_byM (g := gIT) (fun c => en_py iIT c) (fun a _ b _ => by unfold gIT; rw [PySem.W.alike]; exact alike_ints a b) (.inl fun a ha => ?_) (fun a _ => by unfold gIT; rw [PyData.depth, dep_ints]; omega) h, le_gIT]
  · rfl
  · have := hn a ha
    cases a with
    | nil => exact absurd rfl this
    | cons => rfl
/-- the crowd of two members -/
def twoC (f w n : Nat) : List Int := (List.range n).map fun i => (if i = f then 1 else 0) + (if i = w then 1 else 0)
theorem two_len {f w n : Nat} : (twoC f w n).length = n := by unfold twoC; simp
theorem two_nth {f w n i : Nat} (h : i < n) : nth' (twoC f w n) (i : Int) = (if i = f then 1 else 0) + (if i = w then 1 else 0) := by
  unfold nth' twoC
  rw [Int.toNat_natCast, List.getElem?_map, List.getElem?_range h]
  rfl
theorem sum_ind (f : Nat) : ∀ n, f < n → ((List.range n).map fun i => (if i = f then (1 : Int) else 0)).sum = 1
  | n + 1, h => by
    rw [List.range_succ, List.map_append, List.sum_append]
    by_cases e : f = n
    · subst e
      have : ((List.range f).map fun i => (if i = f then (1 : Int) else 0)).sum = 0 := by
        have : ((List.range f).map fun i => (if i = f then (1 : Int) else 0)) = (List.range f).map fun _ => 0 := List.map_congr_left fun i hi => by
          rw [List.mem_range] at hi
          rw [if_neg (by omega)]
        rw [this, List.map_const', List.sum_replicate_int]
        simp
      rw [this]; simp
    · rw [sum_ind f n (by omega)]
      simp [Ne.symm e]
theorem sum_add {α : Type} (g h : α → Int) : ∀ l : List α, (l.map fun x => g x + h x).sum = (l.map g).sum + (l.map h).sum
  | [] => rfl
  | a :: r => by simp only [List.map_cons, List.sum_cons, sum_add g h r]; omega
theorem two_crd {f w n : Nat} (hf : f < n) (hw : w < n) : Crd n 2 (twoC f w n) := by
  refine ⟨two_len, fun x hx => ?_, ?_⟩
  · unfold twoC at hx
    obtain ⟨i, _, rfl⟩ := List.mem_map.mp hx
    split <;> split <;> omega
  · unfold twoC
    rw [sum_add, sum_ind f n hf, sum_ind w n hw]
    rfl
theorem two_able {m : Mo} {n : Nat} (h : Mok n m) : ∃ e, mvP (twoC m.1 m.2.1 n) m = some e := by
  unfold mvP movO
  rw [if_pos]
  · exact ⟨_, rfl⟩
  · unfold able1
    rw [two_nth h.a, two_nth h.b]
    simp only [Bool.and_eq_true, decide_eq_true_eq]
    by_cases e : m.2.1 = m.1
    · simp [e]
    · simp [e, Ne.symm e]
/-- the move follows from others -/
def FolP (ms : List Mo) (m : Mo) (n : Nat) : Prop := ∃ e, mvP (twoC m.1 m.2.1 n) m = some e ∧ Reach ms (twoC m.1 m.2.1 n) e
def Fol (ks : List Nm) (R : List Ru) (r : Ru) : Prop := FolP (R.map (plc ks)) (plc ks r) ks.length
theorem ixOf_inj {ks : List Nm} {a b : Nm} (ha : a ∈ ks) (hb : b ∈ ks) (e : ixOf a ks = ixOf b ks) : a = b := by
  have g1 := ixOf_get ha
  have g2 := ixOf_get hb
  rw [e, g2] at g1
  exact (Option.some.inj g1).symm
theorem gd_mok {ks : List Nm} {r : Ru} (h : gd ks r) : Mok ks.length (plc ks r) :=
  ⟨ixOf_lt (h.1 r.1 (by simp [rl])), ixOf_lt (h.1 r.2.1 (by simp [rl])), ixOf_lt (h.1 r.2.2 (by simp [rl])), fun e => h.2 (ixOf_inj (h.1 _ (by simp [rl])) (h.1 _ (by simp [rl])) e)⟩
theorem gds_mok {ks : List Nm} {R : List Ru} (h : ∀ r ∈ R, gd ks r) : ∀ m ∈ R.map (plc ks), Mok ks.length m := fun m hm => by
  obtain ⟨r, hr, rfl⟩ := List.mem_map.mp hm
  exact gd_mok (h r hr)
section
variable {S : Sto} {ks : List Nm} {R : List Ru}
theorem pow8 {n : Nat} (h : n ≤ 8) : (2 + 1) ^ n ≤ 1000000 := Nat.le_trans (Nat.pow_le_pow_right (by omega) h) (by decide)
local macro_rules | `(tactic| exists $es,*) => `(tactic| simp (disch := first | omega | assumption | (simp only [*, Option.isSome_some, List.length_map, List.length_set]; done) | (simp only [*, Option.isSome_some, List.length_map, List.length_set]; omega)) only [DL.fmi_int, DL.fmi_nm, DL.fmi_eR, DL.hold_seq, DL.hold_nx, DL.hold_nx0, DL.hold_ret, DL.hold_brk, DL.hold_ct, DL.hold_exc, DL.toR_nx, DL.toR_ret, DL.toR_exc, DL.bnd_ok, DL.bnd_exc, DL.toS_ok, DL.toS_exc, DL.opt_some, DL.condR_true, DL.condR_of, DL.condS_true, DL.condS_of, DL.condR_bind, DL.condR_toS, DL.condR_condR, DL.getV_some, DL.ap_eV, DL.ap_eC, DL.ap_e1, DL.ap_e2, DL.ap_aNil, DL.ap_aCons, DL.ap_eN, DL.ap_eCall, DL.ap_eCallK, DL.ap_eMth, DL.ap_eMth0, DL.ap_eMthK, DL.ap_eM, DL.asB_bl, DL.ap_tV, DL.ap_tAnd, DL.ap_tOr, DL.ap_tNot, DL.ap_tYes, DL.ap_eIf, DL.andK_bl, DL.orK_bl, DL.ap_eAnd, DL.ap_eOr, DL.ap_uNot, DL.ap_uNeg, DL.ap_xNone, DL.asO_int, DL.ap_xSome, DL.ap_eSl, DL.chK_int, DL.ap_eCh, DL.ap_sNil, DL.ap_sBrk, DL.ap_sCt, DL.ap_sExpr, DL.ap_sRet, DL.ap_sSet, DL.ap_sIf, DL.ap_sAsg, DL.parK_ok, DL.ap_sPar, DL.ap_sRaise, DL.ap_sFld, DL.ap_gN, DL.ap_gTp, DL.ap_gsNil, DL.gsK_some, DL.ap_gsCons, DL.gUl_lst, DL.ap_gUl, DL.ap_gIx, DL.ixK_cell, DL.ixK2_int, DL.putO_lst, DL.putO_0, DL.putO_1, DL.putO_2, DL.asL_lst, DL.asR_lst, DL.asR_ro, DL.asQ_lst, DL.asQ_ro, DL.asQ_tup, DL.asQ_ktup, DL.lstO_lst, DL.asL_cell, DL.asR_cell, DL.asQ_cell, DL.isL_def, DL.add_int, DL.oI_int, DL.oIc_int, DL.oB_int, DL.is_non, DL.is_int, DL.is_str, DL.is_lst, DL.is_tup, DL.is_cell, DL.isn_non, DL.isn_int, DL.isn_str, DL.isn_lst, DL.isn_tup, DL.isn_cell, DL.mkT_ok, DL.mkL_ok, DL.mkC_ok, DL.add_lst, DL.addK_ok, DL.addC_ap, DL.lenO_some, DL.len_cell, DL.len_lst, DL.len_tup, DL.len_ktup, DL.len_ro, DL.bLen_of, DL.bInt_int, DL.bInt_bl, DL.bAbs_int, DL.bMax_int, DL.bMin_int, DL.lstK_some, DL.lstCK_some, DL.tupK_some, DL.ktupK_some, DL.bList_of, DL.bListC_of, DL.bTuple_tup, DL.tuple_cell, DL.tuple_lst, DL.tuple_ro, DL.tuple_ktup, DL.bTuple_of, DL.bTupleK_of, DL.mApp_ap, DL.appO_lst, DL.mPopAt_ap, DL.mulL_2, DL.someR_ok, DL.ixO_some, DL.ix_cell, DL.ix_lst, DL.ix_tup, DL.ix_ktup, DL.ix_ro, DL.ix_of, DL.sl_tup, DL.sl_lst, DL.slK_some, DL.sl_cell, DL.cut_take, DL.cut_drop, DL.take_map, DL.drop_map, DL.atI_map, DL.atI_0, DL.atI_1, DL.atI_2, DL.atI_3, DL.wipe_nil, DL.wipe_cons, DL.noexc_k, DL.noexc_c, DL.ap_turn, DL.trnK_some, DL.ap_lcD, DL.ap_eLc, DL.ap_eLcC, DL.lcK_typed, DL.lcT_ok, DL.lcT_cond, DL.always_is, DL.ite_ok, DL.ite_int, DL.ite_bl, DL.fm_int, DL.fm_bl, DL.fm_str, DL.fm_if, DL.ap_iSeq, DL.it_lst, DL.it_ro, DL.it_tup, DL.it_ktup, DL.itO_lst, DL.it_cell, DL.any_lst, DL.all_lst, DL.any_map', DL.all_map', DL.push_len, DL.push_push, DL.get_0, DL.get_1, DL.get_2, DL.set_0, DL.set_1, DL.set_2, DL.set_len, DL.set_set, DL.get_app, DL.set_app, DL.get_aft, DL.get_aft0, DL.set_aft, DL.set_aft0, DL.str_eq, DL.int_eq, DL.ints_eq, DL.intsT_eq, DL.id_is, DL.eq_nn, DL.eq_nilI, DL.eq_nilN, DL.sum_lst, DL.set_ints, DL.app_ints, DL.ite_true', DL.ite_false', DL.pickO_some, DL.pick_nil, DL.pick_cons, DL.fzR_py, DL.fz_non, DL.fz_nonT, DL.fz_int, DL.fz_intT, DL.fz_bl, DL.fz_blT, DL.fz_ints, DL.fz_intsT, DL.fz_tints, DL.fz_tintsT, DL.nxt_nx, DL.nxt_ct, DL.nxt_brk, DL.nxt_ret, DL.nxt_exc, DL.ap_iRg1, DL.ap_iRg2, DL.rgK_ok, DL.rgK2_ok, DL.ap_iEn, DL.enK_lst, DL.enK_ro, DL.ap_iZp, DL.zpK_tup, DL.zpK_lst, DL.turn_eI, DL.turn_eP, DL.len_str, DL.it_str, DL.in_ch, DL.app_map, DL.it_eR, DL.ix_eR0, DL.ix_eR1, DL.ix_eR2, DL.eq_nm, DL.eq_eR, DL.is_eR, DL.isn_eR, DL.eq_nilR, DL.rl_len, DL.atI_ix, DL.it_dI, DL.map_dI, DL.fm_eR, DL.fm_nm, DL.tup3_eR, DL.app_rs, DL.map_id'', DL.fm_dI, DL.tup_eR, DL.eta_nm, DL.eta_eR, DL.eta_dI, DL.bk_kinds, DL.bk_rules, DL.bk_of, DL.fz_nms, DL.fz_rs, DL.fz_bk, DL.kinds_ok, DL.rules_ok, DL.blen_ok, DL.prp_bk, DL.ins_bk1, DL.in_ktup, DL.in_rtup, DL.in_rlst, DL.eq_ktup, DL.eq_rtup, DL.eq_rlst, DL.eq_nlst, DL.isi_bk, DL.beq_ok, DL.own_bk, DL.wantB_bl, DL.lenO_bk, DL.isn_eCOL, DL.is_eCOL, DL.is_eCOT, DL.isn_eCOT, DL.it_eIT, DL.is_eIT, DL.repr_lst, DL.repr_tup, DL.repr_cell, DL.repr_eIL, DL.reprT_some, DL.py_int, DL.py_str, DL.py_bl, DL.py_non, DL.py_nm, DL.py_eR, DL.py_eIL, DL.py_lst', DL.py_tup', DL.pys_nil, DL.pys_cons, DL.pys_int, DL.pys_nm, DL.pys_eR, DL.pys_eIL, DL.py_cell', DL.cellPy_lst, DL.pyp_int, DL.pyp_nm, DL.pyp_eR, DL.pyp_eIL, DL.ix_pl0, DL.ix_pl1, DL.fm_lI, DL.it_lI, DL.par3K_ok, DL.ap_sPar3, DL.unset_nx, DL.unset_ct, DL.unset_brk, DL.unset_ret, DL.hold_try, DL.catch_nx, DL.catch_ct, DL.catch_brk, DL.catch_ret, DL.catch_exc, DL.hold_cat, DL.cat_no, DL.eO_ok, DL.sl_str, DL.add_str', DL.ix_str, DL.add_tup, DL.mul_9, DL.oInM_cell, DL.oNotInM_cell, DL.inO_dT, DL.putS_some, DL.ap_sPutM, DL.putM_cell, DL.putMO_dT, DL.ap_eDic1, DL.dicK_eIT, DL.dicO_nil, DL.isn_eMo, DL.sorted_cell, DL.sortO_lst, reduceDIte, Nat.reduceEqDiff, dreduceDIte, Int.reduceNegSucc, Nat.reduceOr, Nat.reducePow, Nat.reduceGT, Nat.reduceBneDiff, Nat.reduceSubDiff, Nat.reduceMod, Int.reduceGE, Int.reduceToNat, Int.reduceEq, dreduceIte, Int.reduceGT, Int.reducePow, Nat.reduceBNe, Int.reduceDiv, Int.reduceMul, reduceCtorEq, Int.reduceBEq, Nat.reduceBeqDiff, String.reduceNe, String.reduceBNe, Int.reduceNe, String.reduceBEq, Int.reduceSub, Int.reduceAbs, Int.reduceLT, Int.reduceNeg, Nat.reduceDiv, Int.reduceBNe, Int.reduceDvd, Int.reduceAdd, Nat.reduceBEq, Nat.reduceSucc, String.reduceEq, Int.reduceLE, Int.reduceMod, reduceIte, Int.reduceFDiv, Int.reduceFMod, startD, List.map_cons, List.map_nil, List.length_cons, List.length_nil, List.replicate_succ, List.replicate_zero, Nat.reduceAdd, Nat.reduceSub, Nat.reduceMul, List.cons_append, List.nil_append, List.getElem?_cons_zero, List.getElem?_cons_succ, List.set_cons_zero, List.set_cons_succ, ↓reduceIte, decide_eq_true_eq, Bool.false_eq_true, Int.natCast_inj, Int.toNat_natCast, Option.isSome_some, Option.isSome_none, Option.isNone_none, Option.isNone_some, Bool.or_eq_true, Bool.and_eq_true, Bool.not_eq_true', decide_eq_false_iff_not, Bool.not_true, Bool.not_false, beq_self_eq_true, Option.map_some, Option.bind_some, true_and, and_true, false_and, and_false, or_true, true_or, or_false, false_or, Nat.reduceLeDiff, Nat.reduceLT, Bool.false_and, Bool.true_and, Bool.and_false, Bool.and_true, Nat.zero_le, List.length_map, List.length_set, List.length_append, List.length_zipIdx, List.length_range, gt_iff_lt, not_true_eq_false, not_false_eq_true, eq_self, Bool.false_xor, Bool.true_xor, Bool.xor_false, List.not_mem_nil, decide_true, decide_false, $[$es:term],*])
theorem two_of_ok {m : Mo} {n : Nat} (hn : n ≤ 1000) : m_two_of [eMo m, .int n] S = .ok (eIT (twoC m.1 m.2.1 n)) S := by
  apply fz_hold
  exists b_two_of, eI3
  rfl
theorem fol_from_ok {ms : List Mo} {m : Mo} {n : Nat} (hn : n ≤ 8) (hm : ∀ m ∈ ms, Mok n m) (h : Mok n m) : ∃ b, m_follows_from [.lst (ms.map eMo), eMo m, .int n] S = .ok (.bl b) S ∧ (b = true ↔ FolP ms m n) := by
  have hc := two_crd h.a h.b
  obtain ⟨L, e1, nd, hL⟩ := reached_ok (S := S) (d := eIT (twoC m.1 m.2.1 n)) (s := 2) (fun _ => rfl) hc hm (pow8 hn)
  obtain ⟨e, he⟩ := two_able h
  refine ⟨decide (e ∈ L), ?_, ?_⟩
  · apply fz_hold
    have hv := moved_ok (S := S) (d := eIT (twoC m.1 m.2.1 n)) (c := twoC m.1 m.2.1 n) (f := m.1) (w := m.2.1) (t := m.2.2) (.tup _) (by rw [two_len]; exact h.a) (by rw [two_len]; exact h.b) (by rw [two_len]; exact h.c)
    have he' : movO (twoC m.1 m.2.1 n) m.1 m.2.1 m.2.2 = some e := he
    rw [he'] at hv
    have h2 := two_of_ok (S := S) (m := m) (n := n) (by omega)
    rw [show eMo m = eI3 m.1 m.2.1 m.2.2 from rfl] at h2
    have hi := en_in (S := S) iIT (by decide) (neg := false) L e (.inl (py_lst iIT L))
    exists b_follows_from, h2, hv, e1, eCO, hi
  · rw [decide_eq_true_eq, hL]
    unfold FolP
    constructor
    · exact fun h => ⟨e, he, h⟩
    · rintro ⟨e', h1, h2⟩
      rw [he] at h1
      cases h1
      exact h2
theorem moves_of_ok (hR : ∀ r ∈ R, gd ks r) (hl : R.length ≤ 1000) : m_moves_of [bk ks R] S = .ok (.lst ((R.map (plc ks)).map eMo)) S := by
  apply fz_hold
  exists b_moves_of
  rw [lcT_by (fun r => some (eMo (plc ks r)))]
  rotate_left
  · intro r hr
    exists places_ok (hR r hr).1
    rfl
  rw [fm_some, show (R.map fun r => eMo (plc ks r)) = (R.map (plc ks)).map eMo by rw [List.map_map]; rfl]
  exists id_is
  exact fz_en (iL eMo) _
theorem gd_badR {r : Ru} (h : gd ks r) : badR ks r = false := by
  unfold badR
  rw [Bool.or_eq_false_iff, List.any_eq_false, decide_eq_false_iff_not]
  exact ⟨fun n hn => by simp [h.1 n hn], h.2⟩
theorem follows_ok {r : Ru} (hk : ks.length ≤ 8) (hR : ∀ r ∈ R, gd ks r) (hl : R.length ≤ 1000) (h : gd ks r) : ∃ b, m_follows [bk ks R, eR r] S = .ok (.bl b) S ∧ (b = true ↔ Fol ks R r) := by
  obtain ⟨b, e, hb⟩ := fol_from_ok (S := S) hk (gds_mok hR) (gd_mok h)
  refine ⟨b, ?_, hb⟩
  apply fz_hold
  have e : m_follows_from [.lst ((R.map (plc ks)).map eMo), dI ks r, .int ks.length] S = .ok (.bl b) S := e
  exists b_follows, check_rule_ok (S := S) (d := .ktup (ks.map eN')) (r := r) (.ktup _), gd_badR h, moves_of_ok (S := S) hR hl, places_ok (S := S) (R := R) h.1, e
/-! ### crowds of two members -/
def rawT (n : Nat) : List (List Int) := (List.range n).flatMap fun f => (List.range (n - f)).map fun j => twoC f (f + j) n
noncomputable def twosL (n : Nat) : List (List Int) := sortI (rawT n)
theorem twos_perm (n : Nat) : (twosL n).Perm (rawT n) := sortI_perm _
theorem twos_mem {n : Nat} {c : List Int} : c ∈ twosL n ↔ ∃ f w, f ≤ w ∧ w < n ∧ c = twoC f w n := by
  rw [(twos_perm n).mem_iff]
  unfold rawT
  rw [List.mem_flatMap]
  constructor
  · rintro ⟨f, hf, h⟩
    obtain ⟨j, hj, rfl⟩ := List.mem_map.mp h
    rw [List.mem_range] at hf hj
    exact ⟨f, f + j, by omega, by omega, rfl⟩
  · rintro ⟨f, w, h1, h2, rfl⟩
    exact ⟨f, by rw [List.mem_range]; omega, List.mem_map.mpr ⟨w - f, by rw [List.mem_range]; omega, by rw [Nat.add_sub_cancel' h1]⟩⟩
theorem rawT_len {n : Nat} (h : n ≤ 8) : (rawT n).length ≤ 64 := by
  unfold rawT
  match n, h with
  | 0, _ | 1, _ | 2, _ | 3, _ | 4, _ | 5, _ | 6, _ | 7, _ | 8, _ => decide
/-- a loop over what a range gives, by the number of the turn -/
theorem for_rangeE {n : Nat} {f : Nat → Dv} {it : It'} {g : Gt} {b : Sm} {ρ : En} {S S1 : Sto} {rest : List Sm} {P : SRe → Prop} {chk : Sto → Prop} (I : Nat → En → Sto → Prop) (hf : it ρ S = .ok ((List.range n).map f, chk) S1) (hc : chk S1) (h0 : I 0 ρ S1)
    (hs : ∀ i ρ S, i < n → I i ρ S → Hold (optS (g (f i) ρ S) b) [] (Nxt chk (I (i + 1)) rest P)) (hk : ∀ ρ S, I n ρ S → Hold (.nx ρ S) rest P) : Hold (sFor it g b ρ S) rest P := by
  refine for_hold (enc := f) (xs := List.range n) (fun r ρ S => ∃ i, i ≤ n ∧ r = List.range' i (n - i) ∧ I i ρ S) hf hc ⟨0, Nat.zero_le n, by rw [List.range_eq_range', Nat.sub_zero], h0⟩ ?_ ?_
  · rintro x r ρ S _ ⟨i, hi, e, h⟩
    by_cases hlt : i < n
    · rw [show n - i = (n - (i + 1)) + 1 by omega, List.range'_succ] at e
      obtain ⟨rfl, rfl⟩ := List.cons.inj e
      have q := hs x ρ S hlt h
      have mono : ∀ q, Nxt chk (I (x + 1)) rest P q → Nxt chk (fun ρ S => ∃ i, i ≤ n ∧ List.range' (x + 1) (n - (x + 1)) = List.range' i (n - i) ∧ I i ρ S) rest P q := fun q h => by
        cases q with
        | nx ρ S => exact ⟨h.1, x + 1, hlt, rfl, h.2⟩
        | ct ρ S => exact ⟨h.1, x + 1, hlt, rfl, h.2⟩
        | _ => exact h
      exact mono _ q
    · rw [show n - i = 0 by omega] at e
      cases e
  · rintro ρ S ⟨i, hi, e, h⟩
    have : i = n := by
      by_cases hlt : i < n
      · rw [show n - i = (n - (i + 1)) + 1 by omega, List.range'_succ] at e
        cases e
      · omega
    subst this
    exact hk ρ S h
def rawF (n k : Nat) : List (List Int) := (List.range k).flatMap fun f => (List.range (n - f)).map fun j => twoC f (f + j) n
theorem rawF_len {n k : Nat} (hk : k ≤ n) : (rawF n k).length ≤ (rawT n).length := by
  obtain ⟨m, rfl⟩ := Nat.exists_eq_add_of_le hk
  unfold rawF rawT
  rw [List.range_add, List.flatMap_append, List.length_append]
  omega
theorem rawF_succ {n k : Nat} : rawF n (k + 1) = rawF n k ++ (List.range (n - k)).map fun j => twoC k (k + j) n := by
  unfold rawF
  rw [List.range_succ, List.flatMap_append]
  simp
def rawI (n i j : Nat) : List (List Int) := rawF n i ++ (List.range j).map fun k => twoC i (i + k) n
theorem twos_ok {n : Nat} (h : n ≤ 8) : m_twos [.int n] S = .ok (.lst ((twosL n).map eIL)) S := by
  apply fz_hold
  exists b_twos
  have hr := rawT_len h
  refine for_range (n := n) (chk := always) (S1 := S ++ [.lst []]) (fun i ρ S' => ∃ (x y : Option Dv), S' = S ++ [.lst ((rawF n i).map eIL)] ∧ ρ = [some (.int n), some (.cell S.length), x, y, none]) ?_ trivial ⟨none, none, rfl, rfl⟩ ?_ ?_
  · exists id_is
  · rintro i ρ S' hi ⟨x, y, rfl, rfl⟩
    have hi2 := Nat.le_trans (rawF_len (Nat.le_of_lt hi)) hr
    exists id_is
    generalize hP : Nxt always _ _ _ = P'
    refine for_rangeE (n := n - i) (f := fun j => Dv.int ((i : Int) + (j : Int))) (chk := always) (S1 := S ++ [Ob.lst ((rawF n i).map eIL)]) (fun (j : Nat) (ρ : En) (S' : Sto) => ∃ (y : Option Dv), S' = S ++ [Ob.lst ((rawI n i j).map eIL)] ∧ ρ = [some (Dv.int n), some (Dv.cell S.length), some (Dv.int i), y, none]) ?_ trivial ⟨y, by unfold rawI; rw [List.range_zero, List.map_nil, List.append_nil], rfl⟩ ?_ ?_
    · have e : ((n : Int) - (i : Int)).toNat = n - i := by omega
      exists e
    · rintro j ρ S' hj ⟨y, rfl, rfl⟩
      have e : ∀ x : Nat, (((x : Int) = (i : Int) + (j : Int)) ↔ x = i + j) := fun x => by omega
      have hl : (rawI n i j).length ≤ 64 := by
        have := Nat.le_trans (rawF_len (Nat.succ_le_of_lt hi)) hr
        rw [rawF_succ, List.length_append, List.length_map, List.length_range] at this
        unfold rawI
        rw [List.length_append, List.length_map, List.length_range]
        omega
      exists e
      refine ⟨_, ?_, rfl⟩
      unfold rawI
      rw [List.range_succ]
      unfold twoC
      simp only [List.map_append, List.append_assoc, List.map_cons, List.map_nil]
      rfl
    · rintro ρ S' ⟨y, rfl, rfl⟩
      subst hP
      exists id_is
      exact ⟨_, _, by unfold rawI; rw [rawF_succ], rfl⟩
  · rintro ρ S' ⟨x, y, rfl, rfl⟩
    have e : rawF n n = rawT n := rfl
    exists e, sorted_eIL
    exact fz_enT (iL eIL) _
/-- a crowd leads to unlike crowds by two lists of moves -/
noncomputable def unl (ms ms' : List Mo) (c : List Int) : Bool := open Classical in !decide (∀ x, Reach ms c x ↔ Reach ms' c x)
noncomputable def unlO (ks : List Nm) (R R' : List Ru) : Option (List Int) := (twosL ks.length).find? (unl (R.map (plc ks)) (R'.map (plc ks)))
def eOL : Option (List Int) → Dv
  | none => .non
  | some c => eIL c
theorem eq_lIT {h : Bool → Bool} {l m : List (List Int)} : oEqF h (.lst (l.map eIT)) (.lst (m.map eIT)) S = .ok (.bl (h (decide (l = m)))) S := en_eq (iL eIT) (by decide) l m
theorem sorted_reach {ms ms' : List Mo} {c : List Int} {L L' : List (List Int)} (n1 : L.Nodup) (n2 : L'.Nodup) (h1 : ∀ x, x ∈ L ↔ Reach ms c x) (h2 : ∀ x, x ∈ L' ↔ Reach ms' c x) : (!decide (sortI L = sortI L')) = unl ms ms' c := by
  unfold unl
  congr 1
  rw [Bool.eq_iff_iff]
  simp only [decide_eq_true_eq]
  rw [sortI_eq, List.perm_ext_iff_of_nodup n1 n2]
  simp only [h1, h2]
local macro_rules | `(tactic| exists $es,*) => `(tactic| simp (disch := first | omega | assumption | (simp only [*, Option.isSome_some, List.length_map, List.length_set]; done) | (simp only [*, Option.isSome_some, List.length_map, List.length_set]; omega)) only [DL.fmi_int, DL.fmi_nm, DL.fmi_eR, DL.hold_seq, DL.hold_nx, DL.hold_nx0, DL.hold_ret, DL.hold_brk, DL.hold_ct, DL.hold_exc, DL.toR_nx, DL.toR_ret, DL.toR_exc, DL.bnd_ok, DL.bnd_exc, DL.toS_ok, DL.toS_exc, DL.opt_some, DL.condR_true, DL.condR_of, DL.condS_true, DL.condS_of, DL.condR_bind, DL.condR_toS, DL.condR_condR, DL.getV_some, DL.ap_eV, DL.ap_eC, DL.ap_e1, DL.ap_e2, DL.ap_aNil, DL.ap_aCons, DL.ap_eN, DL.ap_eCall, DL.ap_eCallK, DL.ap_eMth, DL.ap_eMth0, DL.ap_eMthK, DL.ap_eM, DL.asB_bl, DL.ap_tV, DL.ap_tAnd, DL.ap_tOr, DL.ap_tNot, DL.ap_tYes, DL.ap_eIf, DL.andK_bl, DL.orK_bl, DL.ap_eAnd, DL.ap_eOr, DL.ap_uNot, DL.ap_uNeg, DL.ap_xNone, DL.asO_int, DL.ap_xSome, DL.ap_eSl, DL.chK_int, DL.ap_eCh, DL.ap_sNil, DL.ap_sBrk, DL.ap_sCt, DL.ap_sExpr, DL.ap_sRet, DL.ap_sSet, DL.ap_sIf, DL.ap_sAsg, DL.parK_ok, DL.ap_sPar, DL.ap_sRaise, DL.ap_sFld, DL.ap_gN, DL.ap_gTp, DL.ap_gsNil, DL.gsK_some, DL.ap_gsCons, DL.gUl_lst, DL.ap_gUl, DL.ap_gIx, DL.ixK_cell, DL.ixK2_int, DL.putO_lst, DL.putO_0, DL.putO_1, DL.putO_2, DL.asL_lst, DL.asR_lst, DL.asR_ro, DL.asQ_lst, DL.asQ_ro, DL.asQ_tup, DL.asQ_ktup, DL.lstO_lst, DL.asL_cell, DL.asR_cell, DL.asQ_cell, DL.isL_def, DL.add_int, DL.oI_int, DL.oIc_int, DL.oB_int, DL.is_non, DL.is_int, DL.is_str, DL.is_lst, DL.is_tup, DL.is_cell, DL.isn_non, DL.isn_int, DL.isn_str, DL.isn_lst, DL.isn_tup, DL.isn_cell, DL.mkT_ok, DL.mkL_ok, DL.mkC_ok, DL.add_lst, DL.addK_ok, DL.addC_ap, DL.lenO_some, DL.len_cell, DL.len_lst, DL.len_tup, DL.len_ktup, DL.len_ro, DL.bLen_of, DL.bInt_int, DL.bInt_bl, DL.bAbs_int, DL.bMax_int, DL.bMin_int, DL.lstK_some, DL.lstCK_some, DL.tupK_some, DL.ktupK_some, DL.bList_of, DL.bListC_of, DL.bTuple_tup, DL.tuple_cell, DL.tuple_lst, DL.tuple_ro, DL.tuple_ktup, DL.bTuple_of, DL.bTupleK_of, DL.mApp_ap, DL.appO_lst, DL.mPopAt_ap, DL.mulL_2, DL.someR_ok, DL.ixO_some, DL.ix_cell, DL.ix_lst, DL.ix_tup, DL.ix_ktup, DL.ix_ro, DL.ix_of, DL.sl_tup, DL.sl_lst, DL.slK_some, DL.sl_cell, DL.cut_take, DL.cut_drop, DL.take_map, DL.drop_map, DL.atI_map, DL.atI_0, DL.atI_1, DL.atI_2, DL.atI_3, DL.wipe_nil, DL.wipe_cons, DL.noexc_k, DL.noexc_c, DL.ap_turn, DL.trnK_some, DL.ap_lcD, DL.ap_eLc, DL.ap_eLcC, DL.lcK_typed, DL.lcT_ok, DL.lcT_cond, DL.always_is, DL.ite_ok, DL.ite_int, DL.ite_bl, DL.fm_int, DL.fm_bl, DL.fm_str, DL.fm_if, DL.ap_iSeq, DL.it_lst, DL.it_ro, DL.it_tup, DL.it_ktup, DL.itO_lst, DL.it_cell, DL.any_lst, DL.all_lst, DL.any_map', DL.all_map', DL.push_len, DL.push_push, DL.get_0, DL.get_1, DL.get_2, DL.set_0, DL.set_1, DL.set_2, DL.set_len, DL.set_set, DL.get_app, DL.set_app, DL.get_aft, DL.get_aft0, DL.set_aft, DL.set_aft0, DL.str_eq, DL.int_eq, DL.ints_eq, DL.intsT_eq, DL.id_is, DL.eq_nn, DL.eq_nilI, DL.eq_nilN, DL.sum_lst, DL.set_ints, DL.app_ints, DL.ite_true', DL.ite_false', DL.pickO_some, DL.pick_nil, DL.pick_cons, DL.fzR_py, DL.fz_non, DL.fz_nonT, DL.fz_int, DL.fz_intT, DL.fz_bl, DL.fz_blT, DL.fz_ints, DL.fz_intsT, DL.fz_tints, DL.fz_tintsT, DL.nxt_nx, DL.nxt_ct, DL.nxt_brk, DL.nxt_ret, DL.nxt_exc, DL.ap_iRg1, DL.ap_iRg2, DL.rgK_ok, DL.rgK2_ok, DL.ap_iEn, DL.enK_lst, DL.enK_ro, DL.ap_iZp, DL.zpK_tup, DL.zpK_lst, DL.turn_eI, DL.turn_eP, DL.len_str, DL.it_str, DL.in_ch, DL.app_map, DL.it_eR, DL.ix_eR0, DL.ix_eR1, DL.ix_eR2, DL.eq_nm, DL.eq_eR, DL.is_eR, DL.isn_eR, DL.eq_nilR, DL.rl_len, DL.atI_ix, DL.it_dI, DL.map_dI, DL.fm_eR, DL.fm_nm, DL.tup3_eR, DL.app_rs, DL.map_id'', DL.fm_dI, DL.tup_eR, DL.eta_nm, DL.eta_eR, DL.eta_dI, DL.bk_kinds, DL.bk_rules, DL.bk_of, DL.fz_nms, DL.fz_rs, DL.fz_bk, DL.kinds_ok, DL.rules_ok, DL.blen_ok, DL.prp_bk, DL.ins_bk1, DL.in_ktup, DL.in_rtup, DL.in_rlst, DL.eq_ktup, DL.eq_rtup, DL.eq_rlst, DL.eq_nlst, DL.isi_bk, DL.beq_ok, DL.own_bk, DL.wantB_bl, DL.lenO_bk, DL.isn_eCOL, DL.is_eCOL, DL.is_eCOT, DL.isn_eCOT, DL.it_eIT, DL.is_eIT, DL.repr_lst, DL.repr_tup, DL.repr_cell, DL.repr_eIL, DL.reprT_some, DL.py_int, DL.py_str, DL.py_bl, DL.py_non, DL.py_nm, DL.py_eR, DL.py_eIL, DL.py_lst', DL.py_tup', DL.pys_nil, DL.pys_cons, DL.pys_int, DL.pys_nm, DL.pys_eR, DL.pys_eIL, DL.py_cell', DL.cellPy_lst, DL.pyp_int, DL.pyp_nm, DL.pyp_eR, DL.pyp_eIL, DL.ix_pl0, DL.ix_pl1, DL.fm_lI, DL.it_lI, DL.par3K_ok, DL.ap_sPar3, DL.unset_nx, DL.unset_ct, DL.unset_brk, DL.unset_ret, DL.hold_try, DL.catch_nx, DL.catch_ct, DL.catch_brk, DL.catch_ret, DL.catch_exc, DL.hold_cat, DL.cat_no, DL.eO_ok, DL.sl_str, DL.add_str', DL.ix_str, DL.add_tup, DL.mul_9, DL.oInM_cell, DL.oNotInM_cell, DL.inO_dT, DL.putS_some, DL.ap_sPutM, DL.putM_cell, DL.putMO_dT, DL.ap_eDic1, DL.dicK_eIT, DL.dicO_nil, DL.isn_eMo, DL.sorted_cell, DL.sortO_lst, DL.eq_lIT, reduceDIte, Nat.reduceEqDiff, dreduceDIte, Int.reduceNegSucc, Nat.reduceOr, Nat.reducePow, Nat.reduceGT, Nat.reduceBneDiff, Nat.reduceSubDiff, Nat.reduceMod, Int.reduceGE, Int.reduceToNat, Int.reduceEq, dreduceIte, Int.reduceGT, Int.reducePow, Nat.reduceBNe, Int.reduceDiv, Int.reduceMul, reduceCtorEq, Int.reduceBEq, Nat.reduceBeqDiff, String.reduceNe, String.reduceBNe, Int.reduceNe, String.reduceBEq, Int.reduceSub, Int.reduceAbs, Int.reduceLT, Int.reduceNeg, Nat.reduceDiv, Int.reduceBNe, Int.reduceDvd, Int.reduceAdd, Nat.reduceBEq, Nat.reduceSucc, String.reduceEq, Int.reduceLE, Int.reduceMod, reduceIte, Int.reduceFDiv, Int.reduceFMod, startD, List.map_cons, List.map_nil, List.length_cons, List.length_nil, List.replicate_succ, List.replicate_zero, Nat.reduceAdd, Nat.reduceSub, Nat.reduceMul, List.cons_append, List.nil_append, List.getElem?_cons_zero, List.getElem?_cons_succ, List.set_cons_zero, List.set_cons_succ, ↓reduceIte, decide_eq_true_eq, Bool.false_eq_true, Int.natCast_inj, Int.toNat_natCast, Option.isSome_some, Option.isSome_none, Option.isNone_none, Option.isNone_some, Bool.or_eq_true, Bool.and_eq_true, Bool.not_eq_true', decide_eq_false_iff_not, Bool.not_true, Bool.not_false, beq_self_eq_true, Option.map_some, Option.bind_some, true_and, and_true, false_and, and_false, or_true, true_or, or_false, false_or, Nat.reduceLeDiff, Nat.reduceLT, Bool.false_and, Bool.true_and, Bool.and_false, Bool.and_true, Nat.zero_le, List.length_map, List.length_set, List.length_append, List.length_zipIdx, List.length_range, gt_iff_lt, not_true_eq_false, not_false_eq_true, eq_self, Bool.false_xor, Bool.true_xor, Bool.xor_false, List.not_mem_nil, decide_true, decide_false, $[$es:term],*])
theorem unlike_turn {R R' : List Ru} {rest : List Sm} {P : SRe → Prop} {c : List Int} {f w : Nat} (hk : ks.length ≤ 8) (hR : ∀ r ∈ R, gd ks r) (hR' : ∀ r ∈ R', gd ks r) (hl : R.length ≤ 1000) (hl' : R'.length ≤ 1000) (hf : f < ks.length) (hw : w < ks.length) (hc : c = twoC f w ks.length)
    (h1 : unl (R.map (plc ks)) (R'.map (plc ks)) c = true → Hold (.ret (eIL c) S) rest P) (h2 : unl (R.map (plc ks)) (R'.map (plc ks)) c = false → Hold (.nx [some (bk ks R), some (bk ks R'), some (eIL c)] S) rest P) :
    Hold (sIf (tV (e2 oNe (eN bSorted (aCons (eCall 2 m_reached (aCons (eCall 1 m_moves_of (aCons (eV 0) aNil)) (aCons (eV 2) aNil))) aNil)) (eN bSorted (aCons (eCall 2 m_reached (aCons (eCall 1 m_moves_of (aCons (eV 1) aNil)) (aCons (eV 2) aNil))) aNil)))) (sRet (eV 2)) sNil
      [some (bk ks R), some (bk ks R'), some (eIL c)] S) rest P := by
  subst hc
  have kc := two_crd hf hw
  obtain ⟨L, e1, n1, m1⟩ := reached_ok (S := S) (d := eIL (twoC f w ks.length)) (s := 2) (fun _ => rfl) kc (gds_mok hR) (pow8 hk)
  obtain ⟨L', e2, n2, m2⟩ := reached_ok (S := S) (d := eIL (twoC f w ks.length)) (s := 2) (fun _ => rfl) kc (gds_mok hR') (pow8 hk)
  have ne : ∀ {ms : List Mo} {L : List (List Int)}, (∀ m ∈ ms, Mok ks.length m) → (∀ x, x ∈ L ↔ Reach ms (twoC f w ks.length) x) → ∀ x ∈ L, x ≠ [] := fun hm h x hx => by
    have := (kc.reach hm ((h x).mp hx)).len
    intro z
    subst z
    simp at this
    omega
  have g1 := ne (gds_mok hR) m1
  have g2 := ne (gds_mok hR') m2
  have l1 : L.length ≤ 1000000 := Nat.le_trans (crd_len n1 fun x hx => kc.reach (gds_mok hR) ((m1 x).mp hx)) (pow8 hk)
  have l2 : L'.length ≤ 1000000 := Nat.le_trans (crd_len n2 fun x hx => kc.reach (gds_mok hR') ((m2 x).mp hx)) (pow8 hk)
  have s1 := sorted_eIT (S := S) g1 (by omega)
  have s2 := sorted_eIT (S := S) g2 (by omega)
  have q := sorted_reach n1 n2 m1 m2
  have v1 := moves_of_ok (S := S) hR hl
  have v2 := moves_of_ok (S := S) hR' hl'
  cases hu : unl (R.map (plc ks)) (R'.map (plc ks)) (twoC f w ks.length) with
  | true =>
    rw [hu] at q
    exists v1, v2, e1, e2, s1, s2, q
    have := h1 hu
    rwa [hold_ret] at this
  | false =>
    rw [hu] at q
    exists v1, v2, e1, e2, s1, s2, q
    exact h2 hu
theorem first_unlike_ok {R R' : List Ru} (hk : ks.length ≤ 8) (hR : ∀ r ∈ R, gd ks r) (hR' : ∀ r ∈ R', gd ks r) (hl : R.length ≤ 1000) (hl' : R'.length ≤ 1000) : m_first_unlike [bk ks R, bk ks R'] S = .ok (eOL (unlO ks R R')) S := by
  apply fz_hold
  exists b_first_unlike, twos_ok (S := S) hk
  refine for_hold (enc := eIL) (xs := twosL ks.length) (chk := always) (S1 := S) (fun r ρ S' => ∃ x : Option Dv, S' = S ∧ ρ = [some (bk ks R), some (bk ks R'), x] ∧ unlO ks R R' = r.find? (unl (R.map (plc ks)) (R'.map (plc ks)))) ?_ trivial ⟨none, rfl, rfl, rfl⟩ ?_ ?_
  · exists twos_ok (S := S) hk
  · rintro c r ρ S' hc ⟨x, rfl, rfl, e⟩
    obtain ⟨f, w, h1, h2, hcc⟩ := twos_mem.mp hc
    show Hold (sIf _ _ _ [some (bk ks R), some (bk ks R'), some (eIL c)] _) _ _
    refine unlike_turn hk hR hR' hl hl' (by omega) h2 hcc (fun hu => ?_) fun hu => ?_
    · exists id_is
      rw [e, List.find?_cons_of_pos hu]
      exact fz_en iIL c
    · exists id_is
      exact ⟨_, rfl, by rw [e, List.find?_cons_of_neg (by rw [hu]; simp)]⟩
  · rintro ρ S' ⟨x, rfl, rfl, e⟩
    exists id_is
    rw [e]
    exists eOL, List.find?_nil
end
end DL

/-! The law's own search. -/
namespace DL
open PySem PySem.Spec PyProof.Rows L2
/-! ### dicts of crowds' texts -/
def dK (L : List (List Int)) : List (L2.Key × Dv) := L.map fun c => (Sum.inr (gIL c).shown, .int 1)
theorem inr_inj {c d : List Int} : (Sum.inr (gIL c).shown : L2.Key) = Sum.inr (gIL d).shown ↔ c = d := ⟨fun h => ints_shown_inj (Sum.inr.inj h), fun h => by rw [h]⟩
theorem valG_dK {c : List Int} : ∀ {L : List (List Int)}, valG (dK L) (Sum.inr (gIL c).shown) = if c ∈ L then some (.int 1) else none
  | [] => rfl
  | d :: r => by
    have ih := valG_dK (c := c) (L := r)
    unfold dK at ih ⊢
    rw [List.map_cons, valG_cons, ih]
    by_cases h : d = c
    · subst h; simp
    · have : ¬ (Sum.inr (gIL d).shown : L2.Key) = Sum.inr (gIL c).shown := fun z => h (inr_inj.mp z)
      rw [if_neg this]
      simp [List.mem_cons, Ne.symm h]
theorem putG_dK {c : List Int} {L : List (List Int)} (h : c ∉ L) : putG (dK L) (Sum.inr (gIL c).shown) (.int 1) = dK (L ++ [c]) := by
  unfold putG
  rw [if_neg]
  · unfold dK; rw [List.map_append]; rfl
  · simp only [dK, List.any_map, List.any_eq_true, Function.comp_apply, decide_eq_true_eq, not_exists, not_and]
    intro d hd z
    exact h (inr_inj.mp z ▸ hd)
section
variable {S : Sto} {ρ : En}
theorem inO_dK {neg : Bool} {c : List Int} {L : List (List Int)} : inO neg (.str (gIL c).shown) S (some (.dik (dK L))) = .ok (.bl (xor neg (decide (c ∈ L)))) S := by
  unfold inO keyK
  dsimp only
  rw [Option.map_some, valG_dK]
  by_cases h : c ∈ L <;> simp [h]
theorem putMO_dK {k : Nat} {c : List Int} {L : List (List Int)} (h : c ∉ L) (hl : L.length < 16777216) : putMO k (.str (gIL c).shown) (.int 1) S (some (.dik (dK L))) = some (S.set k (.dik (dK (L ++ [c])))) := by
  unfold putMO keyK
  dsimp only
  rw [if_pos (by rw [sizeLine_is]; unfold dK; rw [List.length_map]; exact hl), putG_dK h]
theorem ap_eDik1 {fk fv : Ex} : eDik1 fk fv ρ S = (fk ρ (S ++ [.dik []])).bind fun x S1 => (fv ρ S1).bind fun y S2 => dikK S.length x y S2 := id rfl
def dikO (k : Nat) (c : List Int) (S : Sto) : Option Ob → Re Dv
  | some (.dik []) => .ok (.cell k) (S.set k (.dik (dK [c])))
  | _ => .bad
theorem dikK_str {k : Nat} {c : List Int} : dikK k (.str (gIL c).shown) (.int 1) S = dikO k c S S[k]? := by
  unfold dikK dikO keyK
  cases S[k]? with
  | none => rfl
  | some o =>
    cases o with
    | dik l => cases l <;> rfl
    | _ => rfl
theorem dikO_nil {k : Nat} {c : List Int} : dikO k c S (some (.dik [])) = .ok (.cell k) (S.set k (.dik (dK [c]))) := id rfl
theorem gIL_rpr {n s : Nat} {c : List Int} (h : Crd n s c) (hn : n ≤ 1000) (hs : s ≤ 1000000) : Rpr 15003 1 (gIL c) := by
  have := le_sum h.pos
  rw [h.sum] at this
  refine (rpr_ints (k := n) (c := c) (fun x hx => ?_) (by rw [h.len]; exact Nat.le_refl _)).mono (by omega) (Nat.le_refl _)
  have h1 := h.pos x hx
  have h2 := this.2 x hx
  omega
theorem repr_crd {n s : Nat} {c : List Int} (h : Crd n s c) (hn : n ≤ 1000) (hs : s ≤ 1000000) (S : Sto) : bRepr [eIL c] S = .ok (.str (gIL c).shown) S := by
  rw [repr_eIL, show Dv.lst (c.map .int) = eIL c from rfl, py_eIL, reprT_some, condR_of ((gIL_rpr h hn hs).ok (by omega) (by omega))]
local macro_rules | `(tactic| exists $es,*) => `(tactic| simp (disch := first | omega | assumption | (simp only [*, Option.isSome_some, List.length_map, List.length_set]; done) | (simp only [*, Option.isSome_some, List.length_map, List.length_set]; omega)) only [DL.fmi_int, DL.fmi_nm, DL.fmi_eR, DL.hold_seq, DL.hold_nx, DL.hold_nx0, DL.hold_ret, DL.hold_brk, DL.hold_ct, DL.hold_exc, DL.toR_nx, DL.toR_ret, DL.toR_exc, DL.bnd_ok, DL.bnd_exc, DL.toS_ok, DL.toS_exc, DL.opt_some, DL.condR_true, DL.condR_of, DL.condS_true, DL.condS_of, DL.condR_bind, DL.condR_toS, DL.condR_condR, DL.getV_some, DL.ap_eV, DL.ap_eC, DL.ap_e1, DL.ap_e2, DL.ap_aNil, DL.ap_aCons, DL.ap_eN, DL.ap_eCall, DL.ap_eCallK, DL.ap_eMth, DL.ap_eMth0, DL.ap_eMthK, DL.ap_eM, DL.asB_bl, DL.ap_tV, DL.ap_tAnd, DL.ap_tOr, DL.ap_tNot, DL.ap_tYes, DL.ap_eIf, DL.andK_bl, DL.orK_bl, DL.ap_eAnd, DL.ap_eOr, DL.ap_uNot, DL.ap_uNeg, DL.ap_xNone, DL.asO_int, DL.ap_xSome, DL.ap_eSl, DL.chK_int, DL.ap_eCh, DL.ap_sNil, DL.ap_sBrk, DL.ap_sCt, DL.ap_sExpr, DL.ap_sRet, DL.ap_sSet, DL.ap_sIf, DL.ap_sAsg, DL.parK_ok, DL.ap_sPar, DL.ap_sRaise, DL.ap_sFld, DL.ap_gN, DL.ap_gTp, DL.ap_gsNil, DL.gsK_some, DL.ap_gsCons, DL.gUl_lst, DL.ap_gUl, DL.ap_gIx, DL.ixK_cell, DL.ixK2_int, DL.putO_lst, DL.putO_0, DL.putO_1, DL.putO_2, DL.asL_lst, DL.asR_lst, DL.asR_ro, DL.asQ_lst, DL.asQ_ro, DL.asQ_tup, DL.asQ_ktup, DL.lstO_lst, DL.asL_cell, DL.asR_cell, DL.asQ_cell, DL.isL_def, DL.add_int, DL.oI_int, DL.oIc_int, DL.oB_int, DL.is_non, DL.is_int, DL.is_str, DL.is_lst, DL.is_tup, DL.is_cell, DL.isn_non, DL.isn_int, DL.isn_str, DL.isn_lst, DL.isn_tup, DL.isn_cell, DL.mkT_ok, DL.mkL_ok, DL.mkC_ok, DL.add_lst, DL.addK_ok, DL.addC_ap, DL.lenO_some, DL.len_cell, DL.len_lst, DL.len_tup, DL.len_ktup, DL.len_ro, DL.bLen_of, DL.bInt_int, DL.bInt_bl, DL.bAbs_int, DL.bMax_int, DL.bMin_int, DL.lstK_some, DL.lstCK_some, DL.tupK_some, DL.ktupK_some, DL.bList_of, DL.bListC_of, DL.bTuple_tup, DL.tuple_cell, DL.tuple_lst, DL.tuple_ro, DL.tuple_ktup, DL.bTuple_of, DL.bTupleK_of, DL.mApp_ap, DL.appO_lst, DL.mPopAt_ap, DL.mulL_2, DL.someR_ok, DL.ixO_some, DL.ix_cell, DL.ix_lst, DL.ix_tup, DL.ix_ktup, DL.ix_ro, DL.ix_of, DL.sl_tup, DL.sl_lst, DL.slK_some, DL.sl_cell, DL.cut_take, DL.cut_drop, DL.take_map, DL.drop_map, DL.atI_map, DL.atI_0, DL.atI_1, DL.atI_2, DL.atI_3, DL.wipe_nil, DL.wipe_cons, DL.noexc_k, DL.noexc_c, DL.ap_turn, DL.trnK_some, DL.ap_lcD, DL.ap_eLc, DL.ap_eLcC, DL.lcK_typed, DL.lcT_ok, DL.lcT_cond, DL.always_is, DL.ite_ok, DL.ite_int, DL.ite_bl, DL.fm_int, DL.fm_bl, DL.fm_str, DL.fm_if, DL.ap_iSeq, DL.it_lst, DL.it_ro, DL.it_tup, DL.it_ktup, DL.itO_lst, DL.it_cell, DL.any_lst, DL.all_lst, DL.any_map', DL.all_map', DL.push_len, DL.push_push, DL.get_0, DL.get_1, DL.get_2, DL.set_0, DL.set_1, DL.set_2, DL.set_len, DL.set_set, DL.get_app, DL.set_app, DL.get_aft, DL.get_aft0, DL.set_aft, DL.set_aft0, DL.str_eq, DL.int_eq, DL.ints_eq, DL.intsT_eq, DL.id_is, DL.eq_nn, DL.eq_nilI, DL.eq_nilN, DL.sum_lst, DL.set_ints, DL.app_ints, DL.ite_true', DL.ite_false', DL.pickO_some, DL.pick_nil, DL.pick_cons, DL.fzR_py, DL.fz_non, DL.fz_nonT, DL.fz_int, DL.fz_intT, DL.fz_bl, DL.fz_blT, DL.fz_ints, DL.fz_intsT, DL.fz_tints, DL.fz_tintsT, DL.nxt_nx, DL.nxt_ct, DL.nxt_brk, DL.nxt_ret, DL.nxt_exc, DL.ap_iRg1, DL.ap_iRg2, DL.rgK_ok, DL.rgK2_ok, DL.ap_iEn, DL.enK_lst, DL.enK_ro, DL.ap_iZp, DL.zpK_tup, DL.zpK_lst, DL.turn_eI, DL.turn_eP, DL.len_str, DL.it_str, DL.in_ch, DL.app_map, DL.it_eR, DL.ix_eR0, DL.ix_eR1, DL.ix_eR2, DL.eq_nm, DL.eq_eR, DL.is_eR, DL.isn_eR, DL.eq_nilR, DL.rl_len, DL.atI_ix, DL.it_dI, DL.map_dI, DL.fm_eR, DL.fm_nm, DL.tup3_eR, DL.app_rs, DL.map_id'', DL.fm_dI, DL.tup_eR, DL.eta_nm, DL.eta_eR, DL.eta_dI, DL.bk_kinds, DL.bk_rules, DL.bk_of, DL.fz_nms, DL.fz_rs, DL.fz_bk, DL.kinds_ok, DL.rules_ok, DL.blen_ok, DL.prp_bk, DL.ins_bk1, DL.in_ktup, DL.in_rtup, DL.in_rlst, DL.eq_ktup, DL.eq_rtup, DL.eq_rlst, DL.eq_nlst, DL.isi_bk, DL.beq_ok, DL.own_bk, DL.wantB_bl, DL.lenO_bk, DL.isn_eCOL, DL.is_eCOL, DL.is_eCOT, DL.isn_eCOT, DL.it_eIT, DL.is_eIT, DL.repr_lst, DL.repr_tup, DL.repr_cell, DL.repr_eIL, DL.reprT_some, DL.py_int, DL.py_str, DL.py_bl, DL.py_non, DL.py_nm, DL.py_eR, DL.py_eIL, DL.py_lst', DL.py_tup', DL.pys_nil, DL.pys_cons, DL.pys_int, DL.pys_nm, DL.pys_eR, DL.pys_eIL, DL.py_cell', DL.cellPy_lst, DL.pyp_int, DL.pyp_nm, DL.pyp_eR, DL.pyp_eIL, DL.ix_pl0, DL.ix_pl1, DL.fm_lI, DL.it_lI, DL.par3K_ok, DL.ap_sPar3, DL.unset_nx, DL.unset_ct, DL.unset_brk, DL.unset_ret, DL.hold_try, DL.catch_nx, DL.catch_ct, DL.catch_brk, DL.catch_ret, DL.catch_exc, DL.hold_cat, DL.cat_no, DL.eO_ok, DL.sl_str, DL.add_str', DL.ix_str, DL.add_tup, DL.mul_9, DL.oInM_cell, DL.oNotInM_cell, DL.inO_dT, DL.putS_some, DL.ap_sPutM, DL.putM_cell, DL.putMO_dT, DL.ap_eDic1, DL.dicK_eIT, DL.dicO_nil, DL.isn_eMo, DL.sorted_cell, DL.sortO_lst, DL.eq_lIT, DL.inO_dK, DL.putMO_dK, DL.ap_eDik1, DL.dikK_str, DL.dikO_nil, reduceDIte, Nat.reduceEqDiff, dreduceDIte, Int.reduceNegSucc, Nat.reduceOr, Nat.reducePow, Nat.reduceGT, Nat.reduceBneDiff, Nat.reduceSubDiff, Nat.reduceMod, Int.reduceGE, Int.reduceToNat, Int.reduceEq, dreduceIte, Int.reduceGT, Int.reducePow, Nat.reduceBNe, Int.reduceDiv, Int.reduceMul, reduceCtorEq, Int.reduceBEq, Nat.reduceBeqDiff, String.reduceNe, String.reduceBNe, Int.reduceNe, String.reduceBEq, Int.reduceSub, Int.reduceAbs, Int.reduceLT, Int.reduceNeg, Nat.reduceDiv, Int.reduceBNe, Int.reduceDvd, Int.reduceAdd, Nat.reduceBEq, Nat.reduceSucc, String.reduceEq, Int.reduceLE, Int.reduceMod, reduceIte, Int.reduceFDiv, Int.reduceFMod, startD, List.map_cons, List.map_nil, List.length_cons, List.length_nil, List.replicate_succ, List.replicate_zero, Nat.reduceAdd, Nat.reduceSub, Nat.reduceMul, List.cons_append, List.nil_append, List.getElem?_cons_zero, List.getElem?_cons_succ, List.set_cons_zero, List.set_cons_succ, ↓reduceIte, decide_eq_true_eq, Bool.false_eq_true, Int.natCast_inj, Int.toNat_natCast, Option.isSome_some, Option.isSome_none, Option.isNone_none, Option.isNone_some, Bool.or_eq_true, Bool.and_eq_true, Bool.not_eq_true', decide_eq_false_iff_not, Bool.not_true, Bool.not_false, beq_self_eq_true, Option.map_some, Option.bind_some, true_and, and_true, false_and, and_false, or_true, true_or, or_false, false_or, Nat.reduceLeDiff, Nat.reduceLT, Bool.false_and, Bool.true_and, Bool.and_false, Bool.and_true, Nat.zero_le, List.length_map, List.length_set, List.length_append, List.length_zipIdx, List.length_range, gt_iff_lt, not_true_eq_false, not_false_eq_true, eq_self, Bool.false_xor, Bool.true_xor, Bool.xor_false, List.not_mem_nil, decide_true, decide_false, $[$es:term],*])
theorem all_behind_ok {ks : List Nm} {rs : List Ru} {d : Dv} {c : List Int} {s : Nat} (hd : Rl S d (c.map .int)) (hc : Crd ks.length s c) (hr : ∀ r ∈ rs, gd ks r) (hb : (s + 1) ^ ks.length ≤ 1000000) (hk : ks.length ≤ 1000) (hs : s ≤ 1000000) :
    ∃ L : List (List Int), m__law_all_behind [pl ks rs, d] S = .ok (.lst (L.map eIL)) S ∧ L.Nodup ∧ ∀ x, x ∈ L ↔ Reach (rs.map (plc ks)) c x := by
  refine fz_ex (n := 7) (f := b__law_all_behind) (fun q => ∃ L : List (List Int), q = .ok (.lst (L.map eIL)) S ∧ L.Nodup ∧ ∀ x, x ∈ L ↔ Reach (rs.map (plc ks)) c x) ?_
  have q0 := hd.rv.q
  have q1 := fun T => (hd.app T).rv.q
  have hm := gds_mok hr
  have rc := fun S => repr_crd hc hk hs S
  have el : Dv.lst (c.map .int) = eIL c := rfl
  exists b__law_all_behind, q0, q1, el, rc
  have lens : ∀ {a L}, Bf (rs.map (plc ks)) c a L → L.length ≤ 1000000 := fun h => Nat.le_trans (crd_len h.nd fun x hx => hc.reach hm (h.sub x hx)) hb
  refine while_nat (fun k ρ S' => ∃ (a : Nat) (L : List (List Int)) (x y : Option Dv), k = 1000000 - a ∧ a ≤ L.length ∧ S' = S ++ [.lst (L.map eIL), .dik (dK L)] ∧
    ρ = [some (pl ks rs), some d, some (.cell S.length), some (.cell (S.length + 1)), some (.int a), x, y] ∧ Bf (rs.map (plc ks)) c a L) (m := 1000000) ⟨0, [c], none, none, rfl, by simp, rfl, rfl, .begin _ c⟩ ?_
  rintro k ρ S' ⟨a, L, x, y, rfl, hal, rfl, rfl, bf⟩
  have hL := lens bf
  refine ⟨decide (a < L.length), _, by exists hal, Int.ofNat_lt; exact rfl, fun ha => ?_, fun ha => ?_⟩
  · have ha := of_decide_eq_true ha
    obtain ⟨z, hz⟩ : ∃ z, L[a]? = some z := ⟨L[a], List.getElem?_eq_getElem ha⟩
    exists id_is
    refine for_hold (enc := eR) (xs := rs) (chk := always) (S1 := S ++ [.lst (L.map eIL), .dik (dK L)]) (fun r ρ S' => ∃ (L : List (List Int)) (x y : Option Dv), S' = S ++ [.lst (L.map eIL), .dik (dK L)] ∧
      ρ = [some (pl ks rs), some d, some (.cell S.length), some (.cell (S.length + 1)), some (.int a), x, y] ∧ Bt (rs.map (plc ks)) c a z (r.map (plc ks)) L) ?_ trivial ⟨L, x, y, rfl, rfl, bf.turn hz⟩ ?_ ?_
    · exists id_is
    · rintro m r ρ S' hmm ⟨L, x, y, rfl, rfl, bt⟩
      have hz := bt.at_
      have hL := lens bt.bf
      have hlt := (List.getElem?_eq_some_iff.mp hz).1
      have kz := hc.reach hm (bt.bf.sub z (List.mem_of_getElem? hz))
      have ez : nth' L (a : Int) = z := by unfold nth'; rw [Int.toNat_natCast, hz]; rfl
      have hv := turned_ok (S := S ++ [.lst (L.map eIL), .dik (dK L)]) (rs := rs) (hr m hmm) (.lst (z.map .int)) kz.len hk
      rw [show Dv.lst (z.map .int) = eIL z from rfl] at hv
      have hmm' : plc ks m ∈ rs.map (plc ks) := List.mem_map.mpr ⟨m, hmm, rfl⟩
      exists ez, hv
      cases he : mv ks z m with
      | none =>
        exists eCO
        exact ⟨L, _, _, rfl, rfl, bt.skip fun e h => by rw [← mv_plc, he] at h; cases h⟩
      | some e =>
        have re := fun S => repr_crd (kz.mv (hm _ hmm') he) hk hs S
        by_cases hin : e ∈ L
        · exists eCO, re, hin
          exact ⟨L, _, _, rfl, rfl, bt.skip fun e' h => by rw [← mv_plc, he] at h; cases h; exact hin⟩
        · exists eCO, re, hin
          exact ⟨L ++ [e], _, _, rfl, rfl, bt.add hmm' he hin⟩
    · rintro ρ S' ⟨L, x, y, rfl, rfl, bt⟩
      have hlt := (List.getElem?_eq_some_iff.mp bt.at_).1
      exists id_is
      refine ⟨1000000 - (a + 1), ?_, a + 1, L, x, y, rfl, hlt, rfl, rfl, bt.done⟩
      have := lens bt.bf
      omega
  · have ha := of_decide_eq_false ha
    exists id_is
    refine ⟨L, ?_, bf.nd, bf.fin (by omega)⟩
    refine fzR_app ?_ (en_low (iL eIL) _ L)
    unfold frz
    rw [if_pos (by omega), get_0]
    show Dv.lst ((L.map eIL).map (frz _ _ 7)) = _
    rw [frzs_py 7 (pyPs_en (f := eIL) L)]
/-! ### the crowd of two members, by names -/
def twoR (ks : List Nm) (r : Ru) : List Int := twoC (ixOf r.1 ks) (ixOf r.2.1 ks) ks.length
theorem nd_ix {ks : List Nm} (hn : ks.Nodup) {i : Nat} {x n : Nm} (hx : ks[i]? = some x) (hm : n ∈ ks) : x = n ↔ i = ixOf n ks := by
  have hg := ixOf_get hm
  constructor
  · intro e
    subst e
    have h1 := (List.getElem?_eq_some_iff.mp hx)
    have h2 := (List.getElem?_eq_some_iff.mp hg)
    exact (List.getElem_inj hn).mp (h1.2.trans h2.2.symm)
  · intro e
    rw [e, hg] at hx
    exact (Option.some.inj hx).symm
theorem pair_is {ks : List Nm} {r : Ru} (hn : ks.Nodup) (hr : ∀ n ∈ rl r, n ∈ ks) : (ks.map fun x => (if x = r.1 then (1 : Int) else 0) + if x = r.2.1 then 1 else 0) = twoR ks r := by
  apply List.ext_getElem?
  intro i
  unfold twoR twoC
  rw [List.getElem?_map, List.getElem?_map]
  by_cases h : i < ks.length
  · rw [List.getElem?_range h, List.getElem?_eq_getElem h]
    have hx : ks[i]? = some ks[i] := List.getElem?_eq_getElem h
    have e1 := nd_ix hn hx (hr r.1 (by simp [rl]))
    have e2 := nd_ix hn hx (hr r.2.1 (by simp [rl]))
    simp only [Option.map_some, e1, e2]
  · rw [List.getElem?_eq_none (by omega), List.getElem?_eq_none (by rw [List.length_range]; omega)]
    rfl
theorem pair_ok {ks : List Nm} {rs : List Ru} {r : Ru} (hn : ks.Nodup) (hr : ∀ n ∈ rl r, n ∈ ks) (hk : ks.length ≤ 1000) : m__law_pair [pl ks rs, eR r] S = .ok (eIL (twoR ks r)) S := by
  apply fz_hold
  exists b__law_pair, pair_is hn hr
  rfl
theorem comes_ok {ks : List Nm} {rs : List Ru} {r : Ru} (hk : Kin ks) (hrs : ∀ r ∈ rs, gd ks r) (hr : gd ks r) : ∃ b, m__law_comes [pl ks rs, eR r] S = .ok (.bl b) S ∧ (b = true ↔ Fol ks rs r) := by
  have hm := gd_mok hr
  have hc : Crd ks.length (2 : Nat) (twoR ks r) := two_crd hm.a hm.b
  have l8 := hk.l8
  obtain ⟨L, e1, nd, hL⟩ := all_behind_ok (S := S) (d := eIL (twoR ks r)) (s := 2) (.lst _) hc hrs (pow8 l8) (by omega) (by omega)
  obtain ⟨e, he⟩ := two_able hm
  have he : mv ks (twoR ks r) r = some e := he
  refine ⟨decide (e ∈ L), ?_, ?_⟩
  · apply fz_hold
    have hv := turned_ok (S := S) (rs := rs) hr (.lst ((twoR ks r).map .int)) hc.len (by omega)
    rw [show Dv.lst ((twoR ks r).map .int) = eIL (twoR ks r) from rfl, he] at hv
    have hi := en_in (S := S) iIL (by decide) (neg := false) L e (.inl (py_lst iIL L))
    exists b__law_comes, pair_ok (S := S) (rs := rs) hk.nd hr.1, hv, e1, eCO, hi
  · rw [decide_eq_true_eq, hL]
    unfold Fol FolP
    constructor
    · exact fun h => ⟨e, he, h⟩
    · rintro ⟨e', h1, h2⟩
      have h1 : mv ks (twoR ks r) r = some e' := h1
      rw [he] at h1
      cases h1
      exact h2
theorem Fol.rank {ks : List Nm} {rs : List Ru} {r : Ru} : Fol ks (rank ks rs) r ↔ Fol ks rs r := by
  have p := rank_perm ks rs
  have a : ∀ m, m ∈ (DL.rank ks rs).map (plc ks) ↔ m ∈ rs.map (plc ks) := fun m => by
    simp only [List.mem_map, p.mem_iff]
  unfold Fol FolP
  exact ⟨fun ⟨e, h1, h2⟩ => ⟨e, h1, h2.mono fun m h => (a m).mp h⟩, fun ⟨e, h1, h2⟩ => ⟨e, h1, h2.mono fun m h => (a m).mpr h⟩⟩
end
section
variable {ks : List Nm} {rs : List Ru}
theorem rule_short (hks : Kin ks) {r : Ru} (hr : gd ks r) : ∀ x ∈ rl r, x.1.length ≤ 8 := fun x hx => nm_len (hks.ok x (hr.1 x hx))
theorem rpr_kinds (hks : Kin ks) : Rpr 723 1 (.list (ks.map fun x => .str x.1)) := rpr_map (fun x hx => rpr_nm (nm_len (hks.ok x hx))) hks.l8
theorem rank_gds (hr : Rul ks rs) : ∀ r ∈ rank ks rs, gd ks r := fun r h => hr.gd r ((rank_perm ks rs).mem_iff.mp h)
end
end DL

/-! can_do; loops over a few things. -/
namespace DL
open PySem PySem.Spec PyProof.Rows L2
/-- a loop over things that stand there one by one -/
def Wl (g : Gt) (b : Sm) (chk : Sto → Prop) (rest : List Sm) (P : SRe → Prop) : List Dv → En → Sto → Prop
  | [], ρ, S => Hold (.nx ρ S) rest P
  | d :: r, ρ, S => Hold (optS (g d ρ S) b) [] (Nxt chk (Wl g b chk rest P r) rest P)
section
variable {g : Gt} {b : Sm} {chk : Sto → Prop} {rest : List Sm} {P : SRe → Prop} {ρ : En} {S S1 : Sto} {d : Dv} {l : List Dv} {it : It'}
theorem wl_nil : Wl g b chk rest P [] ρ S = Hold (.nx ρ S) rest P := id rfl
theorem wl_cons : Wl g b chk rest P (d :: l) ρ S = Hold (optS (g d ρ S) b) [] (Nxt chk (Wl g b chk rest P l) rest P) := id rfl
theorem for_list (hf : it ρ S = .ok (l, chk) S1) (hc : chk S1) (h : Wl g b chk rest P l ρ S1) : Hold (sFor it g b ρ S) rest P :=
  for_hold (enc := fun d : Dv => d) (xs := l) (fun r ρ S => Wl g b chk rest P r ρ S) (by rw [List.map_id']; exact hf) hc h (fun x r ρ S _ h => h) fun ρ S h => h
end
section
variable {S : Sto}
def revO (k : Nat) (S : Sto) : Option Ob → Re Dv
  | some (.lst l) => .ok .non (S.set k (.lst l.reverse))
  | _ => .bad
theorem mReverse_ap {k : Nat} : mReverse (.cell k) [] S = revO k S S[k]? := by
  unfold mReverse revO
  (try dsimp only)
  all_goals cases S[k]? with
  | none => rfl
  | some o => cases o <;> rfl
theorem revO_lst {k : Nat} {l : List Dv} : revO k S (some (.lst l)) = .ok .non (S.set k (.lst l.reverse)) := id rfl
def clrO (k : Nat) (S : Sto) : Option Ob → Re Dv
  | some (.lst l) => .ok .non (S.set k (.lst []))
  | _ => .bad
theorem mClear_ap {k : Nat} : mClear (.cell k) [] S = clrO k S S[k]? := by
  unfold mClear clrO
  (try dsimp only)
  all_goals cases S[k]? with
  | none => rfl
  | some o => cases o <;> rfl
theorem clrO_lst {k : Nat} {l : List Dv} : clrO k S (some (.lst l)) = .ok .non (S.set k (.lst [])) := id rfl
end
section
variable {S : Sto} {ks : List Nm} {R : List Ru}
theorem lenB (h : R.length ≤ 1000) : ∀ S, bLenO 0 m_Book_len [bk ks R] S = .ok (.int R.length) S := fun S => lenO_bk blen_ok (by omega) (by omega)
theorem unl_self {ms : List Mo} {c : List Int} : unl ms ms c = false := by
  unfold unl
  simp
theorem unlO_self : unlO ks R R = none := by
  unfold unlO
  rw [List.find?_eq_none]
  intro c _
  rw [unl_self]
  simp
theorem unl_mem {ms ms' : List Mo} {c : List Int} (h : ∀ m, m ∈ ms ↔ m ∈ ms') : unl ms ms' c = false := by
  unfold unl
  simp only [Bool.not_eq_false', decide_eq_true_eq]
  exact fun x => ⟨fun g => g.mono fun m hm => (h m).mp hm, fun g => g.mono fun m hm => (h m).mpr hm⟩
local macro_rules | `(tactic| exists $es,*) => `(tactic| simp (disch := first | omega | assumption | (simp only [*, Option.isSome_some, List.length_map, List.length_set]; done) | (simp only [*, Option.isSome_some, List.length_map, List.length_set]; omega)) only [DL.fmi_int, DL.fmi_nm, DL.fmi_eR, DL.hold_seq, DL.hold_nx, DL.hold_nx0, DL.hold_ret, DL.hold_brk, DL.hold_ct, DL.hold_exc, DL.toR_nx, DL.toR_ret, DL.toR_exc, DL.bnd_ok, DL.bnd_exc, DL.toS_ok, DL.toS_exc, DL.opt_some, DL.condR_true, DL.condR_of, DL.condS_true, DL.condS_of, DL.condR_bind, DL.condR_toS, DL.condR_condR, DL.getV_some, DL.ap_eV, DL.ap_eC, DL.ap_e1, DL.ap_e2, DL.ap_aNil, DL.ap_aCons, DL.ap_eN, DL.ap_eCall, DL.ap_eCallK, DL.ap_eMth, DL.ap_eMth0, DL.ap_eMthK, DL.ap_eM, DL.asB_bl, DL.ap_tV, DL.ap_tAnd, DL.ap_tOr, DL.ap_tNot, DL.ap_tYes, DL.ap_eIf, DL.andK_bl, DL.orK_bl, DL.ap_eAnd, DL.ap_eOr, DL.ap_uNot, DL.ap_uNeg, DL.ap_xNone, DL.asO_int, DL.ap_xSome, DL.ap_eSl, DL.chK_int, DL.ap_eCh, DL.ap_sNil, DL.ap_sBrk, DL.ap_sCt, DL.ap_sExpr, DL.ap_sRet, DL.ap_sSet, DL.ap_sIf, DL.ap_sAsg, DL.parK_ok, DL.ap_sPar, DL.ap_sRaise, DL.ap_sFld, DL.ap_gN, DL.ap_gTp, DL.ap_gsNil, DL.gsK_some, DL.ap_gsCons, DL.gUl_lst, DL.ap_gUl, DL.ap_gIx, DL.ixK_cell, DL.ixK2_int, DL.putO_lst, DL.putO_0, DL.putO_1, DL.putO_2, DL.asL_lst, DL.asR_lst, DL.asR_ro, DL.asQ_lst, DL.asQ_ro, DL.asQ_tup, DL.asQ_ktup, DL.lstO_lst, DL.asL_cell, DL.asR_cell, DL.asQ_cell, DL.isL_def, DL.add_int, DL.oI_int, DL.oIc_int, DL.oB_int, DL.is_non, DL.is_int, DL.is_str, DL.is_lst, DL.is_tup, DL.is_cell, DL.isn_non, DL.isn_int, DL.isn_str, DL.isn_lst, DL.isn_tup, DL.isn_cell, DL.mkT_ok, DL.mkL_ok, DL.mkC_ok, DL.add_lst, DL.addK_ok, DL.addC_ap, DL.lenO_some, DL.len_cell, DL.len_lst, DL.len_tup, DL.len_ktup, DL.len_ro, DL.bLen_of, DL.bInt_int, DL.bInt_bl, DL.bAbs_int, DL.bMax_int, DL.bMin_int, DL.lstK_some, DL.lstCK_some, DL.tupK_some, DL.ktupK_some, DL.bList_of, DL.bListC_of, DL.bTuple_tup, DL.tuple_cell, DL.tuple_lst, DL.tuple_ro, DL.tuple_ktup, DL.bTuple_of, DL.bTupleK_of, DL.mApp_ap, DL.appO_lst, DL.mPopAt_ap, DL.mulL_2, DL.someR_ok, DL.ixO_some, DL.ix_cell, DL.ix_lst, DL.ix_tup, DL.ix_ktup, DL.ix_ro, DL.ix_of, DL.sl_tup, DL.sl_lst, DL.slK_some, DL.sl_cell, DL.cut_take, DL.cut_drop, DL.take_map, DL.drop_map, DL.atI_map, DL.atI_0, DL.atI_1, DL.atI_2, DL.atI_3, DL.wipe_nil, DL.wipe_cons, DL.noexc_k, DL.noexc_c, DL.ap_turn, DL.trnK_some, DL.ap_lcD, DL.ap_eLc, DL.ap_eLcC, DL.lcK_typed, DL.lcT_ok, DL.lcT_cond, DL.always_is, DL.ite_ok, DL.ite_int, DL.ite_bl, DL.fm_int, DL.fm_bl, DL.fm_str, DL.fm_if, DL.ap_iSeq, DL.it_lst, DL.it_ro, DL.it_tup, DL.it_ktup, DL.itO_lst, DL.it_cell, DL.any_lst, DL.all_lst, DL.any_map', DL.all_map', DL.push_len, DL.push_push, DL.get_0, DL.get_1, DL.get_2, DL.set_0, DL.set_1, DL.set_2, DL.set_len, DL.set_set, DL.get_app, DL.set_app, DL.get_aft, DL.get_aft0, DL.set_aft, DL.set_aft0, DL.str_eq, DL.int_eq, DL.ints_eq, DL.intsT_eq, DL.id_is, DL.eq_nn, DL.eq_nilI, DL.eq_nilN, DL.sum_lst, DL.set_ints, DL.app_ints, DL.ite_true', DL.ite_false', DL.pickO_some, DL.pick_nil, DL.pick_cons, DL.fzR_py, DL.fz_non, DL.fz_nonT, DL.fz_int, DL.fz_intT, DL.fz_bl, DL.fz_blT, DL.fz_ints, DL.fz_intsT, DL.fz_tints, DL.fz_tintsT, DL.nxt_nx, DL.nxt_ct, DL.nxt_brk, DL.nxt_ret, DL.nxt_exc, DL.ap_iRg1, DL.ap_iRg2, DL.rgK_ok, DL.rgK2_ok, DL.ap_iEn, DL.enK_lst, DL.enK_ro, DL.ap_iZp, DL.zpK_tup, DL.zpK_lst, DL.turn_eI, DL.turn_eP, DL.len_str, DL.it_str, DL.in_ch, DL.app_map, DL.it_eR, DL.ix_eR0, DL.ix_eR1, DL.ix_eR2, DL.eq_nm, DL.eq_eR, DL.is_eR, DL.isn_eR, DL.eq_nilR, DL.rl_len, DL.atI_ix, DL.it_dI, DL.map_dI, DL.fm_eR, DL.fm_nm, DL.tup3_eR, DL.app_rs, DL.map_id'', DL.fm_dI, DL.tup_eR, DL.eta_nm, DL.eta_eR, DL.eta_dI, DL.bk_kinds, DL.bk_rules, DL.bk_of, DL.fz_nms, DL.fz_rs, DL.fz_bk, DL.kinds_ok, DL.rules_ok, DL.blen_ok, DL.prp_bk, DL.ins_bk1, DL.in_ktup, DL.in_rtup, DL.in_rlst, DL.eq_ktup, DL.eq_rtup, DL.eq_rlst, DL.eq_nlst, DL.isi_bk, DL.beq_ok, DL.own_bk, DL.wantB_bl, DL.lenO_bk, DL.isn_eCOL, DL.is_eCOL, DL.is_eCOT, DL.isn_eCOT, DL.it_eIT, DL.is_eIT, DL.repr_lst, DL.repr_tup, DL.repr_cell, DL.repr_eIL, DL.reprT_some, DL.py_int, DL.py_str, DL.py_bl, DL.py_non, DL.py_nm, DL.py_eR, DL.py_eIL, DL.py_lst', DL.py_tup', DL.pys_nil, DL.pys_cons, DL.pys_int, DL.pys_nm, DL.pys_eR, DL.pys_eIL, DL.py_cell', DL.cellPy_lst, DL.pyp_int, DL.pyp_nm, DL.pyp_eR, DL.pyp_eIL, DL.ix_pl0, DL.ix_pl1, DL.fm_lI, DL.it_lI, DL.par3K_ok, DL.ap_sPar3, DL.unset_nx, DL.unset_ct, DL.unset_brk, DL.unset_ret, DL.hold_try, DL.catch_nx, DL.catch_ct, DL.catch_brk, DL.catch_ret, DL.catch_exc, DL.hold_cat, DL.cat_no, DL.eO_ok, DL.sl_str, DL.add_str', DL.ix_str, DL.add_tup, DL.mul_9, DL.oInM_cell, DL.oNotInM_cell, DL.inO_dT, DL.putS_some, DL.ap_sPutM, DL.putM_cell, DL.putMO_dT, DL.ap_eDic1, DL.dicK_eIT, DL.dicO_nil, DL.isn_eMo, DL.sorted_cell, DL.sortO_lst, DL.eq_lIT, DL.inO_dK, DL.putMO_dK, DL.ap_eDik1, DL.dikK_str, DL.dikO_nil, DL.wl_nil, DL.wl_cons, DL.mReverse_ap, DL.revO_lst, DL.mClear_ap, DL.clrO_lst, reduceDIte, Nat.reduceEqDiff, dreduceDIte, Int.reduceNegSucc, Nat.reduceOr, Nat.reducePow, Nat.reduceGT, Nat.reduceBneDiff, Nat.reduceSubDiff, Nat.reduceMod, Int.reduceGE, Int.reduceToNat, Int.reduceEq, dreduceIte, Int.reduceGT, Int.reducePow, Nat.reduceBNe, Int.reduceDiv, Int.reduceMul, reduceCtorEq, Int.reduceBEq, Nat.reduceBeqDiff, String.reduceNe, String.reduceBNe, Int.reduceNe, String.reduceBEq, Int.reduceSub, Int.reduceAbs, Int.reduceLT, Int.reduceNeg, Nat.reduceDiv, Int.reduceBNe, Int.reduceDvd, Int.reduceAdd, Nat.reduceBEq, Nat.reduceSucc, String.reduceEq, Int.reduceLE, Int.reduceMod, reduceIte, Int.reduceFDiv, Int.reduceFMod, startD, List.map_cons, List.map_nil, List.length_cons, List.length_nil, List.replicate_succ, List.replicate_zero, Nat.reduceAdd, Nat.reduceSub, Nat.reduceMul, List.cons_append, List.nil_append, List.getElem?_cons_zero, List.getElem?_cons_succ, List.set_cons_zero, List.set_cons_succ, ↓reduceIte, decide_eq_true_eq, Bool.false_eq_true, Int.natCast_inj, Int.toNat_natCast, Option.isSome_some, Option.isSome_none, Option.isNone_none, Option.isNone_some, Bool.or_eq_true, Bool.and_eq_true, Bool.not_eq_true', decide_eq_false_iff_not, Bool.not_true, Bool.not_false, beq_self_eq_true, Option.map_some, Option.bind_some, true_and, and_true, false_and, and_false, or_true, true_or, or_false, false_or, Nat.reduceLeDiff, Nat.reduceLT, Bool.false_and, Bool.true_and, Bool.and_false, Bool.and_true, Nat.zero_le, List.length_map, List.length_set, List.length_append, List.length_zipIdx, List.length_range, gt_iff_lt, not_true_eq_false, not_false_eq_true, eq_self, Bool.false_xor, Bool.true_xor, Bool.xor_false, List.not_mem_nil, decide_true, decide_false, $[$es:term],*])
theorem can_do_ok {d : Dv} {c : List Int} (h : ∀ T, Rv (S ++ T) d (c.map .int)) (hR : ∀ r ∈ R, gd ks r) (hb : badC ks.length c = false) (hc : c.length = ks.length) (hk : ks.length ≤ 1000) (hl : R.length ≤ 1000) :
    m_can_do [bk ks R, d] S = .ok (.lst ((R.filter fun r => (mv ks c r).isSome).map eR)) S := by
  have h0 := h []
  rw [List.append_nil] at h0
  apply fz_hold
  exists b_can_do, check_crowd_ok h0, hb
  rw [lcT_by (fun r => if (mv ks c r).isSome = true then some (eR r) else none)]
  rotate_left
  · intro r hr
    have hv := step_ok (S := S) (hR r hr) h0 hc
    exists places_ok (S := S) (R := R) (hR r hr).1, hv
  rw [fmi_eR, List.map_id']
  simp only [Bool.decide_eq_true]
  exists id_is
end
end DL

/-! All crowds of a few members; rules that follow do so in all crowds. -/
namespace DL
open PySem PySem.Spec PyProof.Rows L2
/-! ### crowds with others beside -/
def addC (c d : List Int) : List Int := (c.zip d).map fun x => x.1 + x.2
theorem addC_len {c d : List Int} (h : c.length = d.length) : (addC c d).length = c.length := by unfold addC; rw [List.length_map, List.length_zip]; omega
theorem addC_get {c d : List Int} {i : Nat} (h : c.length = d.length) (hi : i < c.length) : (addC c d)[i]? = some (nth' c i + nth' d i) := by
  unfold addC
  rw [List.getElem?_map, (List.getElem?_zip_eq_some (z := (nth' c i, nth' d i))).mpr ⟨nthget hi, nthget (by omega)⟩]
  rfl
theorem addC_nth {c d : List Int} {i : Nat} (h : c.length = d.length) (hi : i < c.length) : nth' (addC c d) i = nth' c i + nth' d i := by
  have := addC_get h hi
  rw [nthget (by rw [addC_len h]; exact hi)] at this
  exact Option.some.inj this
theorem stp_nth {c : List Int} {f t i : Nat} (hf : f < c.length) (ht : t < c.length) (hft : t ≠ f) (hi : i < c.length) : nth' (stp c f t) i = (nth' c i - if i = f then 1 else 0) + if i = t then 1 else 0 := by
  have := stp_get hf ht hft (i := i)
  rw [nthget hi, nthget (by unfold stp; simp only [List.length_set]; exact hi)] at this
  exact Option.some.inj this
theorem list_nth {c d : List Int} (h : c.length = d.length) (g : ∀ i : Nat, i < c.length → nth' c i = nth' d i) : c = d := by
  apply List.ext_getElem?
  intro i
  by_cases hi : i < c.length
  · rw [nthget hi, nthget (by omega), g i hi]
  · rw [List.getElem?_eq_none (by omega), List.getElem?_eq_none (by omega)]
theorem stp_len {c : List Int} {f t : Nat} : (stp c f t).length = c.length := by unfold stp; simp
theorem nth_pos {c : List Int} (h : ∀ x ∈ c, 0 ≤ x) {i : Nat} (hi : i < c.length) : 0 ≤ nth' c i := h _ (nth_mem hi)
/-- a move goes along with more members -/
theorem mvP_add {n : Nat} {c d e : List Int} {m : Mo} (hm : Mok n m) (hc : c.length = n) (hd : d.length = n) (hp : ∀ x ∈ d, 0 ≤ x) (h : mvP c m = some e) : mvP (addC c d) m = some (addC e d) := by
  unfold mvP movO at h ⊢
  split at h
  · rename_i ha
    cases h
    have h1 := hm.a; have h2 := hm.b; have h3 := hm.c
    have e1 := addC_nth (c := c) (d := d) (i := m.1) (by omega) (by omega)
    have e2 := addC_nth (c := c) (d := d) (i := m.2.1) (by omega) (by omega)
    have p1 := nth_pos hp (i := m.1) (by omega)
    have p2 := nth_pos hp (i := m.2.1) (by omega)
    unfold able1 at ha ⊢
    simp only [Bool.and_eq_true, decide_eq_true_eq] at ha
    rw [if_pos]
    · congr 1
      have l1 : (addC c d).length = c.length := addC_len (by omega)
      have ls : (stp c m.1 m.2.2).length = c.length := stp_len
      have l2 : (addC (stp c m.1 m.2.2) d).length = c.length := by rw [addC_len (by omega)]; exact ls
      refine list_nth (by rw [stp_len, l1, l2]) fun i hi => ?_
      rw [stp_len, l1] at hi
      rw [stp_nth (by omega) (by omega) hm.ne (by omega), addC_nth (by omega) hi, addC_nth (by omega) (by omega), stp_nth (by omega) (by omega) hm.ne hi]
      omega
    · simp only [Bool.and_eq_true, decide_eq_true_eq]
      rw [e1, e2]
      refine ⟨by omega, ?_⟩
      have := ha.2
      split at this <;> rename_i q
      · rw [if_pos q]; omega
      · rw [if_neg q]; omega
  · cases h
theorem Reach.add {n : Nat} {s : Int} {ms : List Mo} {c d e : List Int} (hm : ∀ m ∈ ms, Mok n m) (hc : Crd n s c) (hd : d.length = n) (hp : ∀ x ∈ d, 0 ≤ x) (h : Reach ms c e) : Reach ms (addC c d) (addC e d) := by
  induction h with
  | refl => exact .refl _
  | step h hx hv ih => exact .step ih hx (mvP_add (hm _ hx) ((hc.reach hm h).len) hd hp hv)
/-- a crowd in which a move can be done is its two members and others -/
theorem two_rest {n : Nat} {c e : List Int} {m : Mo} (hm : Mok n m) (hc : c.length = n) (hp : ∀ x ∈ c, 0 ≤ x) (h : mvP c m = some e) : ∃ d, d.length = n ∧ (∀ x ∈ d, 0 ≤ x) ∧ c = addC (twoC m.1 m.2.1 n) d := by
  unfold mvP movO at h
  split at h
  · rename_i ha
    unfold able1 at ha
    simp only [Bool.and_eq_true, decide_eq_true_eq] at ha
    have lz : ((c.zip (twoC m.1 m.2.1 n)).map fun x => x.1 - x.2).length = n := by rw [List.length_map, List.length_zip, two_len]; omega
    have g : ∀ i : Nat, i < n → nth' ((c.zip (twoC m.1 m.2.1 n)).map fun x => x.1 - x.2) i = nth' c i - nth' (twoC m.1 m.2.1 n) i := fun i hi => by
      have a : ((c.zip (twoC m.1 m.2.1 n)).map fun x => x.1 - x.2)[i]? = some (nth' c i - nth' (twoC m.1 m.2.1 n) i) := by
        rw [List.getElem?_map, (List.getElem?_zip_eq_some (z := (nth' c i, nth' (twoC m.1 m.2.1 n) i))).mpr ⟨nthget (by omega), nthget (by rw [two_len]; exact hi)⟩]
        rfl
      rw [nthget (by rw [lz]; exact hi)] at a
      exact Option.some.inj a
    refine ⟨(c.zip (twoC m.1 m.2.1 n)).map fun x => x.1 - x.2, lz, fun x hx => ?_, ?_⟩
    · obtain ⟨i, hi⟩ := List.mem_iff_getElem?.mp hx
      have hin : i < n := by have := (List.getElem?_eq_some_iff.mp hi).1; omega
      rw [nthget (by rw [lz]; exact hin)] at hi
      have := Option.some.inj hi
      rw [g i hin, two_nth hin] at this
      have p := nth_pos hp (i := i) (by omega)
      have h2 := ha.2
      by_cases e1 : i = m.1
      · by_cases e2 : i = m.2.1
        · have e3 : m.2.1 = m.1 := by omega
          rw [if_pos e1, if_pos e2] at this
          rw [if_pos e3, ← e2] at h2
          omega
        · rw [if_pos e1, if_neg e2] at this
          rw [← e1] at ha
          have := ha.1
          omega
      · by_cases e2 : i = m.2.1
        · rw [if_neg e1, if_pos e2] at this
          rw [if_neg (by omega), ← e2] at h2
          omega
        · rw [if_neg e1, if_neg e2] at this
          omega
    · refine list_nth (by rw [addC_len (by rw [two_len, lz]), two_len]; exact hc) fun i hi => ?_
      rw [addC_nth (by rw [two_len, lz]) (by rw [two_len]; omega), g i (by omega)]
      omega
  · cases h
/-- what follows does so in all crowds -/
theorem FolP.all {n : Nat} {ms : List Mo} {m : Mo} (hm : Mok n m) (hms : ∀ m ∈ ms, Mok n m) (h : FolP ms m n) {c e : List Int} (hc : c.length = n) (hp : ∀ x ∈ c, 0 ≤ x) (hv : mvP c m = some e) : Reach ms c e := by
  obtain ⟨d, h1, h2, rfl⟩ := two_rest hm hc hp hv
  obtain ⟨e', g1, g2⟩ := h
  have := mvP_add hm two_len h1 h2 g1
  rw [hv] at this
  cases this
  exact g2.add hms (two_crd hm.a hm.b) h1 h2
/-! ### all crowds of so many members at most -/
def hL (s : Nat) : Nat → List (List Int)
  | 0 => [[]]
  | n + 1 => (hL s n).flatMap fun h => (List.range ((s : Int) + 1 - h.sum).toNat).map fun (x : Nat) => h ++ [(x : Int)]
theorem hL_mem {s : Nat} : ∀ {n : Nat} {c : List Int}, c ∈ hL s n ↔ c.length = n ∧ (∀ x ∈ c, 0 ≤ x) ∧ c.sum ≤ s
  | 0, c => by
    unfold hL
    rw [List.mem_singleton]
    constructor
    · rintro rfl; simp
    · exact fun h => List.length_eq_zero_iff.mp h.1
  | n + 1, c => by
    unfold hL
    rw [List.mem_flatMap]
    constructor
    · rintro ⟨h, hh, hc⟩
      obtain ⟨x, hx, rfl⟩ := List.mem_map.mp hc
      obtain ⟨g1, g2, g3⟩ := hL_mem.mp hh
      rw [List.mem_range] at hx
      refine ⟨by simp [g1], fun y hy => ?_, ?_⟩
      · rcases List.mem_append.mp hy with hy | hy
        · exact g2 y hy
        · rw [List.mem_singleton] at hy; omega
      · rw [List.sum_append, List.sum_singleton]; omega
    · rintro ⟨h1, h2, h3⟩
      obtain ⟨h, x, rfl⟩ : ∃ h x, c = h ++ [x] := by
        refine ⟨c.dropLast, c.getLast (by intro z; subst z; simp at h1), (List.dropLast_concat_getLast _).symm⟩
      have hx := h2 x (by simp)
      rw [List.sum_append, List.sum_singleton] at h3
      have hh : ∀ y ∈ h, 0 ≤ y := fun y hy => h2 y (by simp [hy])
      refine ⟨h, hL_mem.mpr ⟨by simpa using h1, hh, by omega⟩, List.mem_map.mpr ⟨x.toNat, by rw [List.mem_range]; omega, by rw [Int.toNat_of_nonneg hx]⟩⟩
theorem flatMap_len_le {α β : Type} {f : α → List β} {k : Nat} : ∀ {l : List α}, (∀ x ∈ l, (f x).length ≤ k) → (l.flatMap f).length ≤ l.length * k
  | [], _ => by simp
  | a :: r, h => by
    have h1 := h a List.mem_cons_self
    have h2 := flatMap_len_le (l := r) fun x hx => h x (List.mem_cons_of_mem _ hx)
    rw [List.flatMap_cons, List.length_append, List.length_cons, Nat.add_mul]
    omega
theorem hL_len (s : Nat) : ∀ n, (hL s n).length ≤ (s + 1) ^ n
  | 0 => by simp [hL]
  | n + 1 => by
    unfold hL
    refine Nat.le_trans (flatMap_len_le (k := s + 1) fun h hh => ?_) ?_
    · rw [List.length_map, List.length_range]
      have := (le_sum (hL_mem.mp hh).2.1).1
      omega
    · rw [Nat.pow_succ]
      exact Nat.mul_le_mul_right _ (hL_len s n)
section
variable {S : Sto}
theorem isn_eIL {c : List Int} : oIsNot (eIL c) .non S = .ok (.bl true) S := id rfl
theorem is_eIL {c : List Int} : oIs (eIL c) .non S = .ok (.bl false) S := id rfl
theorem sum_eIL {c : List Int} : bSum [eIL c] S = .ok (.int c.sum) S := sum_lst
theorem fm_ll {α : Type} {xs : List α} {h : α → List Int} : (xs.filterMap fun x => some (Dv.lst ((h x).map .int))) = (xs.map h).map eIL := by
  rw [List.map_map]
  exact congrFun List.filterMap_eq_map' xs
def hStep (s : Nat) (h : List Int) : List (List Int) := (List.range ((s : Int) + 1 - h.sum).toNat).map fun (x : Nat) => h ++ [(x : Int)]
local macro_rules | `(tactic| exists $es,*) => `(tactic| simp (disch := first | omega | assumption | (simp only [*, Option.isSome_some, List.length_map, List.length_set]; done) | (simp only [*, Option.isSome_some, List.length_map, List.length_set]; omega)) only [DL.fmi_int, DL.fmi_nm, DL.fmi_eR, DL.hold_seq, DL.hold_nx, DL.hold_nx0, DL.hold_ret, DL.hold_brk, DL.hold_ct, DL.hold_exc, DL.toR_nx, DL.toR_ret, DL.toR_exc, DL.bnd_ok, DL.bnd_exc, DL.toS_ok, DL.toS_exc, DL.opt_some, DL.condR_true, DL.condR_of, DL.condS_true, DL.condS_of, DL.condR_bind, DL.condR_toS, DL.condR_condR, DL.getV_some, DL.ap_eV, DL.ap_eC, DL.ap_e1, DL.ap_e2, DL.ap_aNil, DL.ap_aCons, DL.ap_eN, DL.ap_eCall, DL.ap_eCallK, DL.ap_eMth, DL.ap_eMth0, DL.ap_eMthK, DL.ap_eM, DL.asB_bl, DL.ap_tV, DL.ap_tAnd, DL.ap_tOr, DL.ap_tNot, DL.ap_tYes, DL.ap_eIf, DL.andK_bl, DL.orK_bl, DL.ap_eAnd, DL.ap_eOr, DL.ap_uNot, DL.ap_uNeg, DL.ap_xNone, DL.asO_int, DL.ap_xSome, DL.ap_eSl, DL.chK_int, DL.ap_eCh, DL.ap_sNil, DL.ap_sBrk, DL.ap_sCt, DL.ap_sExpr, DL.ap_sRet, DL.ap_sSet, DL.ap_sIf, DL.ap_sAsg, DL.parK_ok, DL.ap_sPar, DL.ap_sRaise, DL.ap_sFld, DL.ap_gN, DL.ap_gTp, DL.ap_gsNil, DL.gsK_some, DL.ap_gsCons, DL.gUl_lst, DL.ap_gUl, DL.ap_gIx, DL.ixK_cell, DL.ixK2_int, DL.putO_lst, DL.putO_0, DL.putO_1, DL.putO_2, DL.asL_lst, DL.asR_lst, DL.asR_ro, DL.asQ_lst, DL.asQ_ro, DL.asQ_tup, DL.asQ_ktup, DL.lstO_lst, DL.asL_cell, DL.asR_cell, DL.asQ_cell, DL.isL_def, DL.add_int, DL.oI_int, DL.oIc_int, DL.oB_int, DL.is_non, DL.is_int, DL.is_str, DL.is_lst, DL.is_tup, DL.is_cell, DL.isn_non, DL.isn_int, DL.isn_str, DL.isn_lst, DL.isn_tup, DL.isn_cell, DL.mkT_ok, DL.mkL_ok, DL.mkC_ok, DL.add_lst, DL.addK_ok, DL.addC_ap, DL.lenO_some, DL.len_cell, DL.len_lst, DL.len_tup, DL.len_ktup, DL.len_ro, DL.bLen_of, DL.bInt_int, DL.bInt_bl, DL.bAbs_int, DL.bMax_int, DL.bMin_int, DL.lstK_some, DL.lstCK_some, DL.tupK_some, DL.ktupK_some, DL.bList_of, DL.bListC_of, DL.bTuple_tup, DL.tuple_cell, DL.tuple_lst, DL.tuple_ro, DL.tuple_ktup, DL.bTuple_of, DL.bTupleK_of, DL.mApp_ap, DL.appO_lst, DL.mPopAt_ap, DL.mulL_2, DL.someR_ok, DL.ixO_some, DL.ix_cell, DL.ix_lst, DL.ix_tup, DL.ix_ktup, DL.ix_ro, DL.ix_of, DL.sl_tup, DL.sl_lst, DL.slK_some, DL.sl_cell, DL.cut_take, DL.cut_drop, DL.take_map, DL.drop_map, DL.atI_map, DL.atI_0, DL.atI_1, DL.atI_2, DL.atI_3, DL.wipe_nil, DL.wipe_cons, DL.noexc_k, DL.noexc_c, DL.ap_turn, DL.trnK_some, DL.ap_lcD, DL.ap_eLc, DL.ap_eLcC, DL.lcK_typed, DL.lcT_ok, DL.lcT_cond, DL.always_is, DL.ite_ok, DL.ite_int, DL.ite_bl, DL.fm_int, DL.fm_bl, DL.fm_str, DL.fm_if, DL.ap_iSeq, DL.it_lst, DL.it_ro, DL.it_tup, DL.it_ktup, DL.itO_lst, DL.it_cell, DL.any_lst, DL.all_lst, DL.any_map', DL.all_map', DL.push_len, DL.push_push, DL.get_0, DL.get_1, DL.get_2, DL.set_0, DL.set_1, DL.set_2, DL.set_len, DL.set_set, DL.get_app, DL.set_app, DL.get_aft, DL.get_aft0, DL.set_aft, DL.set_aft0, DL.str_eq, DL.int_eq, DL.ints_eq, DL.intsT_eq, DL.id_is, DL.eq_nn, DL.eq_nilI, DL.eq_nilN, DL.sum_lst, DL.set_ints, DL.app_ints, DL.ite_true', DL.ite_false', DL.pickO_some, DL.pick_nil, DL.pick_cons, DL.fzR_py, DL.fz_non, DL.fz_nonT, DL.fz_int, DL.fz_intT, DL.fz_bl, DL.fz_blT, DL.fz_ints, DL.fz_intsT, DL.fz_tints, DL.fz_tintsT, DL.nxt_nx, DL.nxt_ct, DL.nxt_brk, DL.nxt_ret, DL.nxt_exc, DL.ap_iRg1, DL.ap_iRg2, DL.rgK_ok, DL.rgK2_ok, DL.ap_iEn, DL.enK_lst, DL.enK_ro, DL.ap_iZp, DL.zpK_tup, DL.zpK_lst, DL.turn_eI, DL.turn_eP, DL.len_str, DL.it_str, DL.in_ch, DL.app_map, DL.it_eR, DL.ix_eR0, DL.ix_eR1, DL.ix_eR2, DL.eq_nm, DL.eq_eR, DL.is_eR, DL.isn_eR, DL.eq_nilR, DL.rl_len, DL.atI_ix, DL.it_dI, DL.map_dI, DL.fm_eR, DL.fm_nm, DL.tup3_eR, DL.app_rs, DL.map_id'', DL.fm_dI, DL.tup_eR, DL.eta_nm, DL.eta_eR, DL.eta_dI, DL.bk_kinds, DL.bk_rules, DL.bk_of, DL.fz_nms, DL.fz_rs, DL.fz_bk, DL.kinds_ok, DL.rules_ok, DL.blen_ok, DL.prp_bk, DL.ins_bk1, DL.in_ktup, DL.in_rtup, DL.in_rlst, DL.eq_ktup, DL.eq_rtup, DL.eq_rlst, DL.eq_nlst, DL.isi_bk, DL.beq_ok, DL.own_bk, DL.wantB_bl, DL.lenO_bk, DL.isn_eCOL, DL.is_eCOL, DL.is_eCOT, DL.isn_eCOT, DL.it_eIT, DL.is_eIT, DL.repr_lst, DL.repr_tup, DL.repr_cell, DL.repr_eIL, DL.reprT_some, DL.py_int, DL.py_str, DL.py_bl, DL.py_non, DL.py_nm, DL.py_eR, DL.py_eIL, DL.py_lst', DL.py_tup', DL.pys_nil, DL.pys_cons, DL.pys_int, DL.pys_nm, DL.pys_eR, DL.pys_eIL, DL.py_cell', DL.cellPy_lst, DL.pyp_int, DL.pyp_nm, DL.pyp_eR, DL.pyp_eIL, DL.ix_pl0, DL.ix_pl1, DL.fm_lI, DL.it_lI, DL.par3K_ok, DL.ap_sPar3, DL.unset_nx, DL.unset_ct, DL.unset_brk, DL.unset_ret, DL.hold_try, DL.catch_nx, DL.catch_ct, DL.catch_brk, DL.catch_ret, DL.catch_exc, DL.hold_cat, DL.cat_no, DL.eO_ok, DL.sl_str, DL.add_str', DL.ix_str, DL.add_tup, DL.mul_9, DL.oInM_cell, DL.oNotInM_cell, DL.inO_dT, DL.putS_some, DL.ap_sPutM, DL.putM_cell, DL.putMO_dT, DL.ap_eDic1, DL.dicK_eIT, DL.dicO_nil, DL.isn_eMo, DL.sorted_cell, DL.sortO_lst, DL.eq_lIT, DL.inO_dK, DL.putMO_dK, DL.ap_eDik1, DL.dikK_str, DL.dikO_nil, DL.wl_nil, DL.wl_cons, DL.mReverse_ap, DL.revO_lst, DL.mClear_ap, DL.clrO_lst, DL.isn_eIL, DL.is_eIL, reduceDIte, Nat.reduceEqDiff, dreduceDIte, Int.reduceNegSucc, Nat.reduceOr, Nat.reducePow, Nat.reduceGT, Nat.reduceBneDiff, Nat.reduceSubDiff, Nat.reduceMod, Int.reduceGE, Int.reduceToNat, Int.reduceEq, dreduceIte, Int.reduceGT, Int.reducePow, Nat.reduceBNe, Int.reduceDiv, Int.reduceMul, reduceCtorEq, Int.reduceBEq, Nat.reduceBeqDiff, String.reduceNe, String.reduceBNe, Int.reduceNe, String.reduceBEq, Int.reduceSub, Int.reduceAbs, Int.reduceLT, Int.reduceNeg, Nat.reduceDiv, Int.reduceBNe, Int.reduceDvd, Int.reduceAdd, Nat.reduceBEq, Nat.reduceSucc, String.reduceEq, Int.reduceLE, Int.reduceMod, reduceIte, Int.reduceFDiv, Int.reduceFMod, startD, List.map_cons, List.map_nil, List.length_cons, List.length_nil, List.replicate_succ, List.replicate_zero, Nat.reduceAdd, Nat.reduceSub, Nat.reduceMul, List.cons_append, List.nil_append, List.getElem?_cons_zero, List.getElem?_cons_succ, List.set_cons_zero, List.set_cons_succ, ↓reduceIte, decide_eq_true_eq, Bool.false_eq_true, Int.natCast_inj, Int.toNat_natCast, Option.isSome_some, Option.isSome_none, Option.isNone_none, Option.isNone_some, Bool.or_eq_true, Bool.and_eq_true, Bool.not_eq_true', decide_eq_false_iff_not, Bool.not_true, Bool.not_false, beq_self_eq_true, Option.map_some, Option.bind_some, true_and, and_true, false_and, and_false, or_true, true_or, or_false, false_or, Nat.reduceLeDiff, Nat.reduceLT, Bool.false_and, Bool.true_and, Bool.and_false, Bool.and_true, Nat.zero_le, List.length_map, List.length_set, List.length_append, List.length_zipIdx, List.length_range, gt_iff_lt, not_true_eq_false, not_false_eq_true, eq_self, Bool.false_xor, Bool.true_xor, Bool.xor_false, List.not_mem_nil, decide_true, decide_false, $[$es:term],*])
theorem herds_ok {n s : Nat} (hb : (s + 1) ^ n ≤ 100000) (hs : s ≤ 1000) (hn : n ≤ 1000) : m__law_herds [.int n, .int s] S = .ok (.lst ((hL s n).map eIL)) S := by
  apply fz_hold
  exists b__law_herds
  have lens : ∀ i, i ≤ n → (hL s i).length ≤ 100000 := fun i hi => Nat.le_trans (hL_len s i) (Nat.le_trans (Nat.pow_le_pow_right (by omega) hi) hb)
  refine for_range (n := n) (chk := always) (S1 := S) (fun i ρ S' => ∃ (x y z w : Option Dv), S' = S ∧ ρ = [some (.int n), some (.int s), some (.lst ((hL s i).map eIL)), x, y, z, w]) ?_ trivial ⟨none, none, none, none, rfl, rfl⟩ ?_ ?_
  · exists id_is
  · rintro i ρ S' hi ⟨x, y, z, w, rfl, rfl⟩
    have hl1 := lens i (by omega)
    have hl2 := lens (i + 1) (by omega)
    exists id_is
    generalize hP : Nxt always _ _ _ = P'
    have hsum : ∀ h ∈ hL s i, 0 ≤ h.sum ∧ h.sum ≤ s := fun h hh => ⟨(le_sum (hL_mem.mp hh).2.1).1, (hL_mem.mp hh).2.2⟩
    refine for_hold (enc := eIL) (xs := hL s i) (chk := always) (S1 := S') (fun r ρ T => ∃ (d : List (List Int)) (z w : Option Dv), T = S' ∧ hL s i = d ++ r ∧ ρ = [some (.int n), some (.int s), some (.lst ((hL s i).map eIL)), some (.int i), some (.lst ((d.flatMap (hStep s)).map eIL)), z, w]) ?_ trivial ⟨[], z, w, rfl, rfl, rfl⟩ ?_ ?_
    · exists id_is
    · rintro h r ρ T hh ⟨d, z, w, rfl, e, rfl⟩
      obtain ⟨g1, g2⟩ := hsum h hh
      have hl : (d.flatMap (hStep s)).length + (hStep s h).length ≤ 100000 := by
        have : (hL s (i + 1)) = (d ++ h :: r).flatMap (hStep s) := by rw [← e]; rfl
        rw [this, List.flatMap_append, List.length_append, List.flatMap_cons, List.length_append] at hl2
        omega
      have hl' : ((d.flatMap (hStep s)) ++ hStep s h).length ≤ 100000 := by rw [List.length_append]; exact hl
      have st : (List.map (fun (x : Nat) => h ++ [(x : Int)]) (List.range ((s : Int) + 1 - h.sum).toNat)) = hStep s h := rfl
      have ap : ∀ a b : List (List Int), a.map eIL ++ b.map eIL = (a ++ b).map eIL := fun a b => List.map_append.symm
      have eh : (eIL h) = .lst (h.map .int) := rfl
      have len1 : h.length ≤ 1000 := by rw [(hL_mem.mp hh).1]; omega
      exists sum_eIL (S := T), eh, fm_ll, st, ap
      exact ⟨d ++ [h], _, _, by rw [e, List.append_assoc]; rfl, by rw [List.flatMap_append, List.flatMap_cons, List.flatMap_nil, List.append_nil]⟩
    · rintro ρ T ⟨d, z, w, rfl, e, rfl⟩
      subst hP
      rw [List.append_nil] at e
      exists id_is
      rw [← e]
      exact ⟨_, _, _, _, rfl⟩
  · rintro ρ S' ⟨x, y, z, w, rfl, rfl⟩
    exists id_is
    exact fz_en (iL eIL) _
theorem fol_all {ks : List Nm} {rs : List Ru} {r : Ru} {s : Nat} (h2 : 2 ≤ s) (hrs : ∀ r ∈ rs, gd ks r) (hr : gd ks r) : (∀ c ∈ hL s ks.length, ∀ e, mv ks c r = some e → Reach (rs.map (plc ks)) c e) ↔ Fol ks rs r := by
  have hm := gd_mok hr
  constructor
  · intro h
    obtain ⟨e, he⟩ := two_able hm
    have hc := two_crd hm.a hm.b
    refine ⟨e, he, h _ (hL_mem.mpr ⟨hc.len, hc.pos, by rw [hc.sum]; omega⟩) e he⟩
  · intro h c hc e he
    obtain ⟨g1, g2, g3⟩ := hL_mem.mp hc
    exact h.all hm (gds_mok hrs) g1 g2 he
end
end DL

namespace DL
open PySem PySem.Spec PyProof.Rows L2
section
variable {S : Sto} {ks : List Nm} {rs : List Ru}
local macro_rules | `(tactic| exists $es,*) => `(tactic| simp (disch := first | omega | assumption | (simp only [*, Option.isSome_some, List.length_map, List.length_set]; done) | (simp only [*, Option.isSome_some, List.length_map, List.length_set]; omega)) only [DL.fmi_int, DL.fmi_nm, DL.fmi_eR, DL.hold_seq, DL.hold_nx, DL.hold_nx0, DL.hold_ret, DL.hold_brk, DL.hold_ct, DL.hold_exc, DL.toR_nx, DL.toR_ret, DL.toR_exc, DL.bnd_ok, DL.bnd_exc, DL.toS_ok, DL.toS_exc, DL.opt_some, DL.condR_true, DL.condR_of, DL.condS_true, DL.condS_of, DL.condR_bind, DL.condR_toS, DL.condR_condR, DL.getV_some, DL.ap_eV, DL.ap_eC, DL.ap_e1, DL.ap_e2, DL.ap_aNil, DL.ap_aCons, DL.ap_eN, DL.ap_eCall, DL.ap_eCallK, DL.ap_eMth, DL.ap_eMth0, DL.ap_eMthK, DL.ap_eM, DL.asB_bl, DL.ap_tV, DL.ap_tAnd, DL.ap_tOr, DL.ap_tNot, DL.ap_tYes, DL.ap_eIf, DL.andK_bl, DL.orK_bl, DL.ap_eAnd, DL.ap_eOr, DL.ap_uNot, DL.ap_uNeg, DL.ap_xNone, DL.asO_int, DL.ap_xSome, DL.ap_eSl, DL.chK_int, DL.ap_eCh, DL.ap_sNil, DL.ap_sBrk, DL.ap_sCt, DL.ap_sExpr, DL.ap_sRet, DL.ap_sSet, DL.ap_sIf, DL.ap_sAsg, DL.parK_ok, DL.ap_sPar, DL.ap_sRaise, DL.ap_sFld, DL.ap_gN, DL.ap_gTp, DL.ap_gsNil, DL.gsK_some, DL.ap_gsCons, DL.gUl_lst, DL.ap_gUl, DL.ap_gIx, DL.ixK_cell, DL.ixK2_int, DL.putO_lst, DL.putO_0, DL.putO_1, DL.putO_2, DL.asL_lst, DL.asR_lst, DL.asR_ro, DL.asQ_lst, DL.asQ_ro, DL.asQ_tup, DL.asQ_ktup, DL.lstO_lst, DL.asL_cell, DL.asR_cell, DL.asQ_cell, DL.isL_def, DL.add_int, DL.oI_int, DL.oIc_int, DL.oB_int, DL.is_non, DL.is_int, DL.is_str, DL.is_lst, DL.is_tup, DL.is_cell, DL.isn_non, DL.isn_int, DL.isn_str, DL.isn_lst, DL.isn_tup, DL.isn_cell, DL.mkT_ok, DL.mkL_ok, DL.mkC_ok, DL.add_lst, DL.addK_ok, DL.addC_ap, DL.lenO_some, DL.len_cell, DL.len_lst, DL.len_tup, DL.len_ktup, DL.len_ro, DL.bLen_of, DL.bInt_int, DL.bInt_bl, DL.bAbs_int, DL.bMax_int, DL.bMin_int, DL.lstK_some, DL.lstCK_some, DL.tupK_some, DL.ktupK_some, DL.bList_of, DL.bListC_of, DL.bTuple_tup, DL.tuple_cell, DL.tuple_lst, DL.tuple_ro, DL.tuple_ktup, DL.bTuple_of, DL.bTupleK_of, DL.mApp_ap, DL.appO_lst, DL.mPopAt_ap, DL.mulL_2, DL.someR_ok, DL.ixO_some, DL.ix_cell, DL.ix_lst, DL.ix_tup, DL.ix_ktup, DL.ix_ro, DL.ix_of, DL.sl_tup, DL.sl_lst, DL.slK_some, DL.sl_cell, DL.cut_take, DL.cut_drop, DL.take_map, DL.drop_map, DL.atI_map, DL.atI_0, DL.atI_1, DL.atI_2, DL.atI_3, DL.wipe_nil, DL.wipe_cons, DL.noexc_k, DL.noexc_c, DL.ap_turn, DL.trnK_some, DL.ap_lcD, DL.ap_eLc, DL.ap_eLcC, DL.lcK_typed, DL.lcT_ok, DL.lcT_cond, DL.always_is, DL.ite_ok, DL.ite_int, DL.ite_bl, DL.fm_int, DL.fm_bl, DL.fm_str, DL.fm_if, DL.ap_iSeq, DL.it_lst, DL.it_ro, DL.it_tup, DL.it_ktup, DL.itO_lst, DL.it_cell, DL.any_lst, DL.all_lst, DL.any_map', DL.all_map', DL.push_len, DL.push_push, DL.get_0, DL.get_1, DL.get_2, DL.set_0, DL.set_1, DL.set_2, DL.set_len, DL.set_set, DL.get_app, DL.set_app, DL.get_aft, DL.get_aft0, DL.set_aft, DL.set_aft0, DL.str_eq, DL.int_eq, DL.ints_eq, DL.intsT_eq, DL.id_is, DL.eq_nn, DL.eq_nilI, DL.eq_nilN, DL.sum_lst, DL.set_ints, DL.app_ints, DL.ite_true', DL.ite_false', DL.pickO_some, DL.pick_nil, DL.pick_cons, DL.fzR_py, DL.fz_non, DL.fz_nonT, DL.fz_int, DL.fz_intT, DL.fz_bl, DL.fz_blT, DL.fz_ints, DL.fz_intsT, DL.fz_tints, DL.fz_tintsT, DL.nxt_nx, DL.nxt_ct, DL.nxt_brk, DL.nxt_ret, DL.nxt_exc, DL.ap_iRg1, DL.ap_iRg2, DL.rgK_ok, DL.rgK2_ok, DL.ap_iEn, DL.enK_lst, DL.enK_ro, DL.ap_iZp, DL.zpK_tup, DL.zpK_lst, DL.turn_eI, DL.turn_eP, DL.len_str, DL.it_str, DL.in_ch, DL.app_map, DL.it_eR, DL.ix_eR0, DL.ix_eR1, DL.ix_eR2, DL.eq_nm, DL.eq_eR, DL.is_eR, DL.isn_eR, DL.eq_nilR, DL.rl_len, DL.atI_ix, DL.it_dI, DL.map_dI, DL.fm_eR, DL.fm_nm, DL.tup3_eR, DL.app_rs, DL.map_id'', DL.fm_dI, DL.tup_eR, DL.eta_nm, DL.eta_eR, DL.eta_dI, DL.bk_kinds, DL.bk_rules, DL.bk_of, DL.fz_nms, DL.fz_rs, DL.fz_bk, DL.kinds_ok, DL.rules_ok, DL.blen_ok, DL.prp_bk, DL.ins_bk1, DL.in_ktup, DL.in_rtup, DL.in_rlst, DL.eq_ktup, DL.eq_rtup, DL.eq_rlst, DL.eq_nlst, DL.isi_bk, DL.beq_ok, DL.own_bk, DL.wantB_bl, DL.lenO_bk, DL.isn_eCOL, DL.is_eCOL, DL.is_eCOT, DL.isn_eCOT, DL.it_eIT, DL.is_eIT, DL.repr_lst, DL.repr_tup, DL.repr_cell, DL.repr_eIL, DL.reprT_some, DL.py_int, DL.py_str, DL.py_bl, DL.py_non, DL.py_nm, DL.py_eR, DL.py_eIL, DL.py_lst', DL.py_tup', DL.pys_nil, DL.pys_cons, DL.pys_int, DL.pys_nm, DL.pys_eR, DL.pys_eIL, DL.py_cell', DL.cellPy_lst, DL.pyp_int, DL.pyp_nm, DL.pyp_eR, DL.pyp_eIL, DL.ix_pl0, DL.ix_pl1, DL.fm_lI, DL.it_lI, DL.par3K_ok, DL.ap_sPar3, DL.unset_nx, DL.unset_ct, DL.unset_brk, DL.unset_ret, DL.hold_try, DL.catch_nx, DL.catch_ct, DL.catch_brk, DL.catch_ret, DL.catch_exc, DL.hold_cat, DL.cat_no, DL.eO_ok, DL.sl_str, DL.add_str', DL.ix_str, DL.add_tup, DL.mul_9, DL.oInM_cell, DL.oNotInM_cell, DL.inO_dT, DL.putS_some, DL.ap_sPutM, DL.putM_cell, DL.putMO_dT, DL.ap_eDic1, DL.dicK_eIT, DL.dicO_nil, DL.isn_eMo, DL.sorted_cell, DL.sortO_lst, DL.eq_lIT, DL.inO_dK, DL.putMO_dK, DL.ap_eDik1, DL.dikK_str, DL.dikO_nil, DL.wl_nil, DL.wl_cons, DL.mReverse_ap, DL.revO_lst, DL.mClear_ap, DL.clrO_lst, DL.isn_eIL, DL.is_eIL, reduceDIte, Nat.reduceEqDiff, dreduceDIte, Int.reduceNegSucc, Nat.reduceOr, Nat.reducePow, Nat.reduceGT, Nat.reduceBneDiff, Nat.reduceSubDiff, Nat.reduceMod, Int.reduceGE, Int.reduceToNat, Int.reduceEq, dreduceIte, Int.reduceGT, Int.reducePow, Nat.reduceBNe, Int.reduceDiv, Int.reduceMul, reduceCtorEq, Int.reduceBEq, Nat.reduceBeqDiff, String.reduceNe, String.reduceBNe, Int.reduceNe, String.reduceBEq, Int.reduceSub, Int.reduceAbs, Int.reduceLT, Int.reduceNeg, Nat.reduceDiv, Int.reduceBNe, Int.reduceDvd, Int.reduceAdd, Nat.reduceBEq, Nat.reduceSucc, String.reduceEq, Int.reduceLE, Int.reduceMod, reduceIte, Int.reduceFDiv, Int.reduceFMod, startD, List.map_cons, List.map_nil, List.length_cons, List.length_nil, List.replicate_succ, List.replicate_zero, Nat.reduceAdd, Nat.reduceSub, Nat.reduceMul, List.cons_append, List.nil_append, List.getElem?_cons_zero, List.getElem?_cons_succ, List.set_cons_zero, List.set_cons_succ, ↓reduceIte, decide_eq_true_eq, Bool.false_eq_true, Int.natCast_inj, Int.toNat_natCast, Option.isSome_some, Option.isSome_none, Option.isNone_none, Option.isNone_some, Bool.or_eq_true, Bool.and_eq_true, Bool.not_eq_true', decide_eq_false_iff_not, Bool.not_true, Bool.not_false, beq_self_eq_true, Option.map_some, Option.bind_some, true_and, and_true, false_and, and_false, or_true, true_or, or_false, false_or, Nat.reduceLeDiff, Nat.reduceLT, Bool.false_and, Bool.true_and, Bool.and_false, Bool.and_true, Nat.zero_le, List.length_map, List.length_set, List.length_append, List.length_zipIdx, List.length_range, gt_iff_lt, not_true_eq_false, not_false_eq_true, eq_self, Bool.false_xor, Bool.true_xor, Bool.xor_false, List.not_mem_nil, decide_true, decide_false, $[$es:term],*])
open Classical in
/-- whether a rule does so in all crowds of up to four members -/
theorem in_all_ok {r : Ru} (h3 : ks.length ≤ 3) (hrs : ∀ r ∈ rs, gd ks r) (hr : gd ks r) : m__law_in_all [pl ks rs, eR r] S = .ok (.bl (decide (Fol ks rs r))) S := by
  have hm := gd_mok hr
  have p5 : (4 + 1) ^ ks.length ≤ 1000 := Nat.le_trans (Nat.pow_le_pow_right (by omega) h3) (by decide)
  have hh : m__law_herds [.int ks.length, .int 4] S = .ok (.lst ((hL 4 ks.length).map eIL)) S := herds_ok (n := ks.length) (s := 4) (by omega) (by omega) (by omega)
  apply fz_hold
  exists b__law_in_all
  refine for_hold (enc := eIL) (xs := hL 4 ks.length) (chk := always) (S1 := S) (fun l ρ T => ∃ (x y : Option Dv) (d : List (List Int)), T = S ∧ ρ = [some (pl ks rs), some (eR r), x, y] ∧ hL 4 ks.length = d ++ l ∧ ∀ c ∈ d, ∀ e, mv ks c r = some e → Reach (rs.map (plc ks)) c e) ?_ trivial ⟨none, none, [], rfl, rfl, rfl, by simp⟩ ?_ ?_
  · exists hh
  · rintro c l ρ T hc ⟨x, y, d, rfl, rfl, e1, hd⟩
    obtain ⟨g1, g2, g3⟩ := hL_mem.mp hc
    have s0 := (le_sum g2).1
    have hv := turned_ok (S := T) (rs := rs) (d := eIL c) hr (.lst _) g1 (by omega)
    cases he : mv ks c r with
    | none =>
      rw [he] at hv
      exists hv, eCO
      exact ⟨_, _, d ++ [c], rfl, by rw [e1, List.append_assoc]; rfl, fun c' hc' e he' => by
        rcases List.mem_append.mp hc' with q | q
        · exact hd c' q e he'
        · rw [List.mem_singleton] at q
          subst q
          rw [he] at he'
          cases he'⟩
    | some e =>
      obtain ⟨L, e2, nd, hL⟩ := all_behind_ok (S := T) (ks := ks) (rs := rs) (d := eIL c) (c := c) (s := c.sum.toNat) (.lst _) ⟨g1, g2, by omega⟩ hrs (Nat.le_trans (Nat.pow_le_pow_left (by omega : c.sum.toNat + 1 ≤ 4 + 1) _) (by omega)) (by omega) (by omega)
      have hi := en_in (S := T) iIL (by decide) (neg := true) L e (.inl (py_lst iIL L))
      rw [he] at hv
      by_cases hin : e ∈ L
      · exists hv, eCO, e2, hi, hin
        exact ⟨_, _, d ++ [c], rfl, by rw [e1, List.append_assoc]; rfl, fun c' hc' e' he' => by
          rcases List.mem_append.mp hc' with q | q
          · exact hd c' q e' he'
          · rw [List.mem_singleton] at q
            subst q
            rw [he] at he'
            cases he'
            exact (hL e).mp hin⟩
      · have nf : ¬ Fol ks rs r := fun f => hin ((hL e).mpr ((fol_all (s := 4) (by omega) hrs hr).mpr f c hc e he))
        exists hv, eCO, e2, hi, hin, nf
  · rintro ρ T ⟨x, y, d, rfl, rfl, e1, hd⟩
    rw [List.append_nil] at e1
    have f : Fol ks rs r := (fol_all (s := 4) (by omega) hrs hr).mp (e1 ▸ hd)
    exists f
end
end DL

namespace DL
open PySem PySem.Spec PyProof.Rows L2
section
variable {S : Sto} {ks : List Nm} {rs : List Ru}
theorem Rul.filter (h : Rul ks rs) (p : Ru → Bool) : Rul ks (rs.filter p) := ⟨h.nd.sublist List.filter_sublist, fun r hr => h.gd r (List.mem_filter.mp hr).1⟩
theorem Rul.rank (h : Rul ks rs) : Rul ks (rank ks rs) := ⟨(rank_perm ks rs).nodup_iff.mpr h.nd, fun r hr => h.gd r ((rank_perm ks rs).mem_iff.mp hr)⟩
local macro_rules | `(tactic| exists $es,*) => `(tactic| simp (disch := first | omega | assumption | (simp only [*, Option.isSome_some, List.length_map, List.length_set]; done) | (simp only [*, Option.isSome_some, List.length_map, List.length_set]; omega)) only [DL.fmi_int, DL.fmi_nm, DL.fmi_eR, DL.hold_seq, DL.hold_nx, DL.hold_nx0, DL.hold_ret, DL.hold_brk, DL.hold_ct, DL.hold_exc, DL.toR_nx, DL.toR_ret, DL.toR_exc, DL.bnd_ok, DL.bnd_exc, DL.toS_ok, DL.toS_exc, DL.opt_some, DL.condR_true, DL.condR_of, DL.condS_true, DL.condS_of, DL.condR_bind, DL.condR_toS, DL.condR_condR, DL.getV_some, DL.ap_eV, DL.ap_eC, DL.ap_e1, DL.ap_e2, DL.ap_aNil, DL.ap_aCons, DL.ap_eN, DL.ap_eCall, DL.ap_eCallK, DL.ap_eMth, DL.ap_eMth0, DL.ap_eMthK, DL.ap_eM, DL.asB_bl, DL.ap_tV, DL.ap_tAnd, DL.ap_tOr, DL.ap_tNot, DL.ap_tYes, DL.ap_eIf, DL.andK_bl, DL.orK_bl, DL.ap_eAnd, DL.ap_eOr, DL.ap_uNot, DL.ap_uNeg, DL.ap_xNone, DL.asO_int, DL.ap_xSome, DL.ap_eSl, DL.chK_int, DL.ap_eCh, DL.ap_sNil, DL.ap_sBrk, DL.ap_sCt, DL.ap_sExpr, DL.ap_sRet, DL.ap_sSet, DL.ap_sIf, DL.ap_sAsg, DL.parK_ok, DL.ap_sPar, DL.ap_sRaise, DL.ap_sFld, DL.ap_gN, DL.ap_gTp, DL.ap_gsNil, DL.gsK_some, DL.ap_gsCons, DL.gUl_lst, DL.ap_gUl, DL.ap_gIx, DL.ixK_cell, DL.ixK2_int, DL.putO_lst, DL.putO_0, DL.putO_1, DL.putO_2, DL.asL_lst, DL.asR_lst, DL.asR_ro, DL.asQ_lst, DL.asQ_ro, DL.asQ_tup, DL.asQ_ktup, DL.lstO_lst, DL.asL_cell, DL.asR_cell, DL.asQ_cell, DL.isL_def, DL.add_int, DL.oI_int, DL.oIc_int, DL.oB_int, DL.is_non, DL.is_int, DL.is_str, DL.is_lst, DL.is_tup, DL.is_cell, DL.isn_non, DL.isn_int, DL.isn_str, DL.isn_lst, DL.isn_tup, DL.isn_cell, DL.mkT_ok, DL.mkL_ok, DL.mkC_ok, DL.add_lst, DL.addK_ok, DL.addC_ap, DL.lenO_some, DL.len_cell, DL.len_lst, DL.len_tup, DL.len_ktup, DL.len_ro, DL.bLen_of, DL.bInt_int, DL.bInt_bl, DL.bAbs_int, DL.bMax_int, DL.bMin_int, DL.lstK_some, DL.lstCK_some, DL.tupK_some, DL.ktupK_some, DL.bList_of, DL.bListC_of, DL.bTuple_tup, DL.tuple_cell, DL.tuple_lst, DL.tuple_ro, DL.tuple_ktup, DL.bTuple_of, DL.bTupleK_of, DL.mApp_ap, DL.appO_lst, DL.mPopAt_ap, DL.mulL_2, DL.someR_ok, DL.ixO_some, DL.ix_cell, DL.ix_lst, DL.ix_tup, DL.ix_ktup, DL.ix_ro, DL.ix_of, DL.sl_tup, DL.sl_lst, DL.slK_some, DL.sl_cell, DL.cut_take, DL.cut_drop, DL.take_map, DL.drop_map, DL.atI_map, DL.atI_0, DL.atI_1, DL.atI_2, DL.atI_3, DL.wipe_nil, DL.wipe_cons, DL.noexc_k, DL.noexc_c, DL.ap_turn, DL.trnK_some, DL.ap_lcD, DL.ap_eLc, DL.ap_eLcC, DL.lcK_typed, DL.lcT_ok, DL.lcT_cond, DL.always_is, DL.ite_ok, DL.ite_int, DL.ite_bl, DL.fm_int, DL.fm_bl, DL.fm_str, DL.fm_if, DL.ap_iSeq, DL.it_lst, DL.it_ro, DL.it_tup, DL.it_ktup, DL.itO_lst, DL.it_cell, DL.any_lst, DL.all_lst, DL.any_map', DL.all_map', DL.push_len, DL.push_push, DL.get_0, DL.get_1, DL.get_2, DL.set_0, DL.set_1, DL.set_2, DL.set_len, DL.set_set, DL.get_app, DL.set_app, DL.get_aft, DL.get_aft0, DL.set_aft, DL.set_aft0, DL.str_eq, DL.int_eq, DL.ints_eq, DL.intsT_eq, DL.id_is, DL.eq_nn, DL.eq_nilI, DL.eq_nilN, DL.sum_lst, DL.set_ints, DL.app_ints, DL.ite_true', DL.ite_false', DL.pickO_some, DL.pick_nil, DL.pick_cons, DL.fzR_py, DL.fz_non, DL.fz_nonT, DL.fz_int, DL.fz_intT, DL.fz_bl, DL.fz_blT, DL.fz_ints, DL.fz_intsT, DL.fz_tints, DL.fz_tintsT, DL.nxt_nx, DL.nxt_ct, DL.nxt_brk, DL.nxt_ret, DL.nxt_exc, DL.ap_iRg1, DL.ap_iRg2, DL.rgK_ok, DL.rgK2_ok, DL.ap_iEn, DL.enK_lst, DL.enK_ro, DL.ap_iZp, DL.zpK_tup, DL.zpK_lst, DL.turn_eI, DL.turn_eP, DL.len_str, DL.it_str, DL.in_ch, DL.app_map, DL.it_eR, DL.ix_eR0, DL.ix_eR1, DL.ix_eR2, DL.eq_nm, DL.eq_eR, DL.is_eR, DL.isn_eR, DL.eq_nilR, DL.rl_len, DL.atI_ix, DL.it_dI, DL.map_dI, DL.fm_eR, DL.fm_nm, DL.tup3_eR, DL.app_rs, DL.map_id'', DL.fm_dI, DL.tup_eR, DL.eta_nm, DL.eta_eR, DL.eta_dI, DL.bk_kinds, DL.bk_rules, DL.bk_of, DL.fz_nms, DL.fz_rs, DL.fz_bk, DL.kinds_ok, DL.rules_ok, DL.blen_ok, DL.prp_bk, DL.ins_bk1, DL.in_ktup, DL.in_rtup, DL.in_rlst, DL.eq_ktup, DL.eq_rtup, DL.eq_rlst, DL.eq_nlst, DL.isi_bk, DL.beq_ok, DL.own_bk, DL.wantB_bl, DL.lenO_bk, DL.isn_eCOL, DL.is_eCOL, DL.is_eCOT, DL.isn_eCOT, DL.it_eIT, DL.is_eIT, DL.repr_lst, DL.repr_tup, DL.repr_cell, DL.repr_eIL, DL.reprT_some, DL.py_int, DL.py_str, DL.py_bl, DL.py_non, DL.py_nm, DL.py_eR, DL.py_eIL, DL.py_lst', DL.py_tup', DL.pys_nil, DL.pys_cons, DL.pys_int, DL.pys_nm, DL.pys_eR, DL.pys_eIL, DL.py_cell', DL.cellPy_lst, DL.pyp_int, DL.pyp_nm, DL.pyp_eR, DL.pyp_eIL, DL.ix_pl0, DL.ix_pl1, DL.fm_lI, DL.it_lI, DL.par3K_ok, DL.ap_sPar3, DL.unset_nx, DL.unset_ct, DL.unset_brk, DL.unset_ret, DL.hold_try, DL.catch_nx, DL.catch_ct, DL.catch_brk, DL.catch_ret, DL.catch_exc, DL.hold_cat, DL.cat_no, DL.eO_ok, DL.sl_str, DL.add_str', DL.ix_str, DL.add_tup, DL.mul_9, DL.oInM_cell, DL.oNotInM_cell, DL.inO_dT, DL.putS_some, DL.ap_sPutM, DL.putM_cell, DL.putMO_dT, DL.ap_eDic1, DL.dicK_eIT, DL.dicO_nil, DL.isn_eMo, DL.sorted_cell, DL.sortO_lst, DL.eq_lIT, DL.inO_dK, DL.putMO_dK, DL.ap_eDik1, DL.dikK_str, DL.dikO_nil, DL.wl_nil, DL.wl_cons, DL.mReverse_ap, DL.revO_lst, DL.mClear_ap, DL.clrO_lst, DL.isn_eIL, DL.is_eIL, reduceDIte, Nat.reduceEqDiff, dreduceDIte, Int.reduceNegSucc, Nat.reduceOr, Nat.reducePow, Nat.reduceGT, Nat.reduceBneDiff, Nat.reduceSubDiff, Nat.reduceMod, Int.reduceGE, Int.reduceToNat, Int.reduceEq, dreduceIte, Int.reduceGT, Int.reducePow, Nat.reduceBNe, Int.reduceDiv, Int.reduceMul, reduceCtorEq, Int.reduceBEq, Nat.reduceBeqDiff, String.reduceNe, String.reduceBNe, Int.reduceNe, String.reduceBEq, Int.reduceSub, Int.reduceAbs, Int.reduceLT, Int.reduceNeg, Nat.reduceDiv, Int.reduceBNe, Int.reduceDvd, Int.reduceAdd, Nat.reduceBEq, Nat.reduceSucc, String.reduceEq, Int.reduceLE, Int.reduceMod, reduceIte, Int.reduceFDiv, Int.reduceFMod, startD, List.map_cons, List.map_nil, List.length_cons, List.length_nil, List.replicate_succ, List.replicate_zero, Nat.reduceAdd, Nat.reduceSub, Nat.reduceMul, List.cons_append, List.nil_append, List.getElem?_cons_zero, List.getElem?_cons_succ, List.set_cons_zero, List.set_cons_succ, ↓reduceIte, decide_eq_true_eq, Bool.false_eq_true, Int.natCast_inj, Int.toNat_natCast, Option.isSome_some, Option.isSome_none, Option.isNone_none, Option.isNone_some, Bool.or_eq_true, Bool.and_eq_true, Bool.not_eq_true', decide_eq_false_iff_not, Bool.not_true, Bool.not_false, beq_self_eq_true, Option.map_some, Option.bind_some, true_and, and_true, false_and, and_false, or_true, true_or, or_false, false_or, Nat.reduceLeDiff, Nat.reduceLT, Bool.false_and, Bool.true_and, Bool.and_false, Bool.and_true, Nat.zero_le, List.length_map, List.length_set, List.length_append, List.length_zipIdx, List.length_range, gt_iff_lt, not_true_eq_false, not_false_eq_true, eq_self, Bool.false_xor, Bool.true_xor, Bool.xor_false, List.not_mem_nil, decide_true, decide_false, $[$es:term],*])
theorem without_ok {R : List Ru} {r : Ru} (hk : Kin ks) (hR : Rul ks R) (hl : R.length ≤ 1000) (hr : r ∈ R) : m_Book_without [bk ks R, eR r] S = .ok (bk ks (DL.rank ks (R.filter fun q => decide (q ≠ r)))) S := by
  apply fz_hold
  have hb := fun S => Book_ok (S := S) hk (hR.filter fun q => decide (q ≠ r)) (.lst _) (.lst _) (Nat.le_trans (List.length_filter_le _ _) hl)
  have e : (R.filter fun q => decide ¬q = r) = R.filter fun q => decide (q ≠ r) := rfl
  exists b_Book_without, hr, kinds_ok, prp_bk, e, hb
theorem pyP_nms {l : List Nm} : pyP (.lst (l.map eN')) = some ((iL eN').g l) := (iL eN').py l
theorem chain_ok {k : Nat} {m : Int × Int} (h : S[k]? = some (ml m)) (hm : mOk m) (hks : Kin ks) (hk0 : 0 < ks.length) (hrs : Rul ks rs) (hl : rs.length ≤ 8) :
    ∃ (rs' : List Ru) (m' : Int × Int), Rul ks rs' ∧ rs'.length ≤ 8 ∧ mOk m' ∧ m__law_chain [.cell k, pl ks rs] S = .ok (pl ks rs') (S.set k (ml m')) := by
  have hk : k < S.length := (List.getElem?_eq_some_iff.mp h).1
  have k8 := hks.l8
  refine fz_ex (n := 7) (f := b__law_chain) (fun q => ∃ (rs' : List Ru) (m' : Int × Int), Rul ks rs' ∧ rs'.length ≤ 8 ∧ mOk m' ∧ q = .ok (pl ks rs') (S.set k (ml m'))) ?_
  have set_self : S.set k (ml m) = S := by
    apply List.ext_getElem?
    intro i
    by_cases e : k = i
    · subst e; rw [get_set hk, h]
    · rw [get_ne e]
  exists b__law_chain
  refine for_range (n := ks.length - 1) (chk := always) (S1 := S ++ [.lst (rs.map eR)]) (fun i ρ T => ∃ (f : List Ru) (mm : Int × Int) (x y z : Option Dv), T = S.set k (ml mm) ++ [.lst (f.map eR)] ∧ mOk mm ∧ Rul ks f ∧ f.length ≤ 8 ∧ ρ = [some (.cell k), some (pl ks rs), some (.lst (ks.map eN')), some (.cell S.length), x, y, z]) ?_ trivial ⟨rs, m, none, none, none, by rw [set_self], hm, hrs, hl, rfl⟩ ?_ ?_
  · have e : ((ks.length : Int) - 1).toNat = ks.length - 1 := by omega
    exists e
  · rintro i ρ T hi ⟨f, mm, x, y, z, rfl, hmm, hf, hfl, rfl⟩
    have e1 : (S.set k (ml mm) ++ [Ob.lst (f.map eR)])[k]? = some (ml mm) := get_mill hk
    exists id_is
    generalize hX : m__law_grind _ _ = X
    obtain ⟨a1, m3, a2, hm3, rfl⟩ := grind_at hX e1 hmm (by omega) (by omega)
    clear hX
    obtain ⟨w, hw, hwl⟩ : ∃ w : Nat, (∀ S, someR S (atI [Dv.int (i : Int), .int ((i : Int) + 1), .int 0, .int ((ks.length : Int) - 1)] (a1 : Int)) = .ok (.int (w : Int)) S) ∧ w < ks.length := by
      have : a1 < 4 := by omega
      match a1, this with
      | 0, _ => exact ⟨i, fun S => rfl, by omega⟩
      | 1, _ => exact ⟨i + 1, fun S => rfl, by omega⟩
      | 2, _ => exact ⟨0, fun S => rfl, by omega⟩
      | 3, _ => exact ⟨ks.length - 1, fun S => by rw [show ((ks.length : Int) - 1) = ((ks.length - 1 : Nat) : Int) by omega]; rfl, by omega⟩
    have bk1 : ∀ m', (S.set k (ml mm) ++ [Ob.lst (f.map eR)]).set k (ml m') = S.set k (ml m') ++ [Ob.lst (f.map eR)] := fun m' => by rw [set_old (by rw [set_len]; exact hk), set_set]
    have bk2 : ∀ m m', (S.set k (ml m) ++ [Ob.lst (f.map eR)]).set k (ml m') = S.set k (ml m') ++ [Ob.lst (f.map eR)] := fun m m' => by rw [set_old (by rw [set_len]; exact hk), set_set]
    have g : gd ks (nth' ks i, nth' ks w, nth' ks ((i : Int) + 1)) := by
      have m1 : ∀ j : Nat, j < ks.length → ks[j]? = some (nth' ks j) := fun j hj => by
        unfold nth'
        rw [Int.toNat_natCast, List.getElem?_eq_getElem hj]
        rfl
      have e2 : ((i : Int) + 1) = ((i + 1 : Nat) : Int) := by omega
      rw [e2]
      refine ⟨fun n hn => ?_, fun z => ?_⟩
      · simp only [rl, List.mem_cons, List.not_mem_nil, or_false] at hn
        rcases hn with rfl | rfl | rfl
        · exact List.mem_of_getElem? (m1 i (by omega))
        · exact List.mem_of_getElem? (m1 w hwl)
        · exact List.mem_of_getElem? (m1 (i + 1) (by omega))
      · have z : nth' ks ((i + 1 : Nat) : Int) = nth' ks i := z
        have h1 := List.getElem?_eq_some_iff.mp (m1 i (by omega))
        have h2 := List.getElem?_eq_some_iff.mp (m1 (i + 1) (by omega))
        have := (List.getElem_inj hks.nd).mp (h1.2.trans (z.symm.trans h2.2.symm))
        omega
    exists hw, bk1
    generalize (nth' ks i, nth' ks w, nth' ks ((i : Int) + 1)) = r at g
    have q := en_notin iR (neg := true) (k := S.length) (l := f) (a := r) (S := S.set k (ml m3) ++ [Ob.lst (f.map eR)]) (by exists id_is)
    by_cases hr : r ∈ f
    · exists q, hr
      exact ⟨f, m3, _, _, _, rfl, hm3, hf, hfl, rfl⟩
    · by_cases hlt : (f.length : Int) < 8
      · exists q, hr, hlt
        generalize hX : m__law_grind _ _ = X
        obtain ⟨a3, m4, a4, hm4, rfl⟩ := grind_at hX (get_mill hk) hm3 (by omega) (by omega)
        clear hX
        by_cases h0 : (0 : Int) < (a3 : Int)
        · exists h0, bk2
          refine ⟨f ++ [r], m4, _, _, _, rfl, hm4, ⟨?_, fun q hq => ?_⟩, by rw [List.length_append, List.length_singleton]; omega, rfl⟩
          · rw [List.nodup_append]
            refine ⟨hf.nd, by simp, fun a ha b hb e => ?_⟩
            rw [List.mem_singleton] at hb
            subst hb e
            exact hr ha
          · rcases List.mem_append.mp hq with hq | hq
            · exact hf.gd q hq
            · rw [List.mem_singleton] at hq
              subst hq
              exact g
        · exists h0, bk2
          exact ⟨f, m4, _, _, _, rfl, hm4, hf, hfl, rfl⟩
      · exists q, hr, hlt
        exact ⟨f, m3, _, _, _, rfl, hm3, hf, hfl, rfl⟩
  · rintro ρ T ⟨f, mm, x, y, z, rfl, hmm, hf, hfl, rfl⟩
    exists id_is
    refine ⟨f, mm, hf, hfl, hmm, ?_⟩
    refine fzR_set (low_ints (l := [mm.1, mm.2])) ?_ ?_
    · show Dv.tup [frz _ _ 7 (.lst (ks.map eN')), frz _ _ 7 (.cell S.length)] = _
      rw [frz_py 7 (pyP_nms)]
      unfold frz
      rw [if_pos (by omega), get_aft0]
      show Dv.tup [_, .lst ((f.map eR).map (frz _ _ 6))] = _
      rw [frzs_py 6 (pyPs_en (f := eR) f)]
      rfl
    · unfold pl
      exact en_low (iP (eL eN') (eL eR)) _ (ks, f)
end
end DL

namespace DL
open PySem PySem.Spec PyProof.Rows L2
section
variable {S : Sto} {ks : List Nm} {rs : List Ru}
theorem cut_neg {α : Type} {l : List α} {n : Nat} : cutD l (some (-((n + 1 : Nat) : Int))) none = l.drop (l.length - (n + 1)) := by
  have e : HT.sIx l.length 0 (some (-((n + 1 : Nat) : Int))) = l.length - (n + 1) := by
    show (if (-((n + 1 : Nat) : Int)) < 0 then ((-((n + 1 : Nat) : Int)) + (l.length : Int)).toNat else _) = _
    rw [if_pos (by omega)]
    omega
  unfold cutD
  rw [HT.sIx_none, e, List.take_of_length_le (by rw [List.length_drop]; omega)]
theorem Fol.mem {rs rs' : List Ru} {r : Ru} (h : ∀ q, q ∈ rs ↔ q ∈ rs') : Fol ks rs r ↔ Fol ks rs' r := by
  have a : ∀ m, m ∈ rs.map (plc ks) ↔ m ∈ rs'.map (plc ks) := fun m => by simp only [List.mem_map, h]
  unfold Fol FolP
  exact ⟨fun ⟨e, h1, h2⟩ => ⟨e, h1, h2.mono fun m h => (a m).mp h⟩, fun ⟨e, h1, h2⟩ => ⟨e, h1, h2.mono fun m h => (a m).mpr h⟩⟩
local macro_rules | `(tactic| exists $es,*) => `(tactic| simp (disch := first | omega | assumption | (simp only [*, Option.isSome_some, List.length_map, List.length_set]; done) | (simp only [*, Option.isSome_some, List.length_map, List.length_set]; omega)) only [DL.fmi_int, DL.fmi_nm, DL.fmi_eR, DL.hold_seq, DL.hold_nx, DL.hold_nx0, DL.hold_ret, DL.hold_brk, DL.hold_ct, DL.hold_exc, DL.toR_nx, DL.toR_ret, DL.toR_exc, DL.bnd_ok, DL.bnd_exc, DL.toS_ok, DL.toS_exc, DL.opt_some, DL.condR_true, DL.condR_of, DL.condS_true, DL.condS_of, DL.condR_bind, DL.condR_toS, DL.condR_condR, DL.getV_some, DL.ap_eV, DL.ap_eC, DL.ap_e1, DL.ap_e2, DL.ap_aNil, DL.ap_aCons, DL.ap_eN, DL.ap_eCall, DL.ap_eCallK, DL.ap_eMth, DL.ap_eMth0, DL.ap_eMthK, DL.ap_eM, DL.asB_bl, DL.ap_tV, DL.ap_tAnd, DL.ap_tOr, DL.ap_tNot, DL.ap_tYes, DL.ap_eIf, DL.andK_bl, DL.orK_bl, DL.ap_eAnd, DL.ap_eOr, DL.ap_uNot, DL.ap_uNeg, DL.ap_xNone, DL.asO_int, DL.ap_xSome, DL.ap_eSl, DL.chK_int, DL.ap_eCh, DL.ap_sNil, DL.ap_sBrk, DL.ap_sCt, DL.ap_sExpr, DL.ap_sRet, DL.ap_sSet, DL.ap_sIf, DL.ap_sAsg, DL.parK_ok, DL.ap_sPar, DL.ap_sRaise, DL.ap_sFld, DL.ap_gN, DL.ap_gTp, DL.ap_gsNil, DL.gsK_some, DL.ap_gsCons, DL.gUl_lst, DL.ap_gUl, DL.ap_gIx, DL.ixK_cell, DL.ixK2_int, DL.putO_lst, DL.putO_0, DL.putO_1, DL.putO_2, DL.asL_lst, DL.asR_lst, DL.asR_ro, DL.asQ_lst, DL.asQ_ro, DL.asQ_tup, DL.asQ_ktup, DL.lstO_lst, DL.asL_cell, DL.asR_cell, DL.asQ_cell, DL.isL_def, DL.add_int, DL.oI_int, DL.oIc_int, DL.oB_int, DL.is_non, DL.is_int, DL.is_str, DL.is_lst, DL.is_tup, DL.is_cell, DL.isn_non, DL.isn_int, DL.isn_str, DL.isn_lst, DL.isn_tup, DL.isn_cell, DL.mkT_ok, DL.mkL_ok, DL.mkC_ok, DL.add_lst, DL.addK_ok, DL.addC_ap, DL.lenO_some, DL.len_cell, DL.len_lst, DL.len_tup, DL.len_ktup, DL.len_ro, DL.bLen_of, DL.bInt_int, DL.bInt_bl, DL.bAbs_int, DL.bMax_int, DL.bMin_int, DL.lstK_some, DL.lstCK_some, DL.tupK_some, DL.ktupK_some, DL.bList_of, DL.bListC_of, DL.bTuple_tup, DL.tuple_cell, DL.tuple_lst, DL.tuple_ro, DL.tuple_ktup, DL.bTuple_of, DL.bTupleK_of, DL.mApp_ap, DL.appO_lst, DL.mPopAt_ap, DL.mulL_2, DL.someR_ok, DL.ixO_some, DL.ix_cell, DL.ix_lst, DL.ix_tup, DL.ix_ktup, DL.ix_ro, DL.ix_of, DL.sl_tup, DL.sl_lst, DL.slK_some, DL.sl_cell, DL.cut_take, DL.cut_drop, DL.take_map, DL.drop_map, DL.atI_map, DL.atI_0, DL.atI_1, DL.atI_2, DL.atI_3, DL.wipe_nil, DL.wipe_cons, DL.noexc_k, DL.noexc_c, DL.ap_turn, DL.trnK_some, DL.ap_lcD, DL.ap_eLc, DL.ap_eLcC, DL.lcK_typed, DL.lcT_ok, DL.lcT_cond, DL.always_is, DL.ite_ok, DL.ite_int, DL.ite_bl, DL.fm_int, DL.fm_bl, DL.fm_str, DL.fm_if, DL.ap_iSeq, DL.it_lst, DL.it_ro, DL.it_tup, DL.it_ktup, DL.itO_lst, DL.it_cell, DL.any_lst, DL.all_lst, DL.any_map', DL.all_map', DL.push_len, DL.push_push, DL.get_0, DL.get_1, DL.get_2, DL.set_0, DL.set_1, DL.set_2, DL.set_len, DL.set_set, DL.get_app, DL.set_app, DL.get_aft, DL.get_aft0, DL.set_aft, DL.set_aft0, DL.str_eq, DL.int_eq, DL.ints_eq, DL.intsT_eq, DL.id_is, DL.eq_nn, DL.eq_nilI, DL.eq_nilN, DL.sum_lst, DL.set_ints, DL.app_ints, DL.ite_true', DL.ite_false', DL.pickO_some, DL.pick_nil, DL.pick_cons, DL.fzR_py, DL.fz_non, DL.fz_nonT, DL.fz_int, DL.fz_intT, DL.fz_bl, DL.fz_blT, DL.fz_ints, DL.fz_intsT, DL.fz_tints, DL.fz_tintsT, DL.nxt_nx, DL.nxt_ct, DL.nxt_brk, DL.nxt_ret, DL.nxt_exc, DL.ap_iRg1, DL.ap_iRg2, DL.rgK_ok, DL.rgK2_ok, DL.ap_iEn, DL.enK_lst, DL.enK_ro, DL.ap_iZp, DL.zpK_tup, DL.zpK_lst, DL.turn_eI, DL.turn_eP, DL.len_str, DL.it_str, DL.in_ch, DL.app_map, DL.it_eR, DL.ix_eR0, DL.ix_eR1, DL.ix_eR2, DL.eq_nm, DL.eq_eR, DL.is_eR, DL.isn_eR, DL.eq_nilR, DL.rl_len, DL.atI_ix, DL.it_dI, DL.map_dI, DL.fm_eR, DL.fm_nm, DL.tup3_eR, DL.app_rs, DL.map_id'', DL.fm_dI, DL.tup_eR, DL.eta_nm, DL.eta_eR, DL.eta_dI, DL.bk_kinds, DL.bk_rules, DL.bk_of, DL.fz_nms, DL.fz_rs, DL.fz_bk, DL.kinds_ok, DL.rules_ok, DL.blen_ok, DL.prp_bk, DL.ins_bk1, DL.in_ktup, DL.in_rtup, DL.in_rlst, DL.eq_ktup, DL.eq_rtup, DL.eq_rlst, DL.eq_nlst, DL.isi_bk, DL.beq_ok, DL.own_bk, DL.wantB_bl, DL.lenO_bk, DL.isn_eCOL, DL.is_eCOL, DL.is_eCOT, DL.isn_eCOT, DL.it_eIT, DL.is_eIT, DL.repr_lst, DL.repr_tup, DL.repr_cell, DL.repr_eIL, DL.reprT_some, DL.py_int, DL.py_str, DL.py_bl, DL.py_non, DL.py_nm, DL.py_eR, DL.py_eIL, DL.py_lst', DL.py_tup', DL.pys_nil, DL.pys_cons, DL.pys_int, DL.pys_nm, DL.pys_eR, DL.pys_eIL, DL.py_cell', DL.cellPy_lst, DL.pyp_int, DL.pyp_nm, DL.pyp_eR, DL.pyp_eIL, DL.ix_pl0, DL.ix_pl1, DL.fm_lI, DL.it_lI, DL.par3K_ok, DL.ap_sPar3, DL.unset_nx, DL.unset_ct, DL.unset_brk, DL.unset_ret, DL.hold_try, DL.catch_nx, DL.catch_ct, DL.catch_brk, DL.catch_ret, DL.catch_exc, DL.hold_cat, DL.cat_no, DL.eO_ok, DL.sl_str, DL.add_str', DL.ix_str, DL.add_tup, DL.mul_9, DL.oInM_cell, DL.oNotInM_cell, DL.inO_dT, DL.putS_some, DL.ap_sPutM, DL.putM_cell, DL.putMO_dT, DL.ap_eDic1, DL.dicK_eIT, DL.dicO_nil, DL.isn_eMo, DL.sorted_cell, DL.sortO_lst, DL.eq_lIT, DL.inO_dK, DL.putMO_dK, DL.ap_eDik1, DL.dikK_str, DL.dikO_nil, DL.wl_nil, DL.wl_cons, DL.mReverse_ap, DL.revO_lst, DL.mClear_ap, DL.clrO_lst, DL.isn_eIL, DL.is_eIL, reduceDIte, Nat.reduceEqDiff, dreduceDIte, Int.reduceNegSucc, Nat.reduceOr, Nat.reducePow, Nat.reduceGT, Nat.reduceBneDiff, Nat.reduceSubDiff, Nat.reduceMod, Int.reduceGE, Int.reduceToNat, Int.reduceEq, dreduceIte, Int.reduceGT, Int.reducePow, Nat.reduceBNe, Int.reduceDiv, Int.reduceMul, reduceCtorEq, Int.reduceBEq, Nat.reduceBeqDiff, String.reduceNe, String.reduceBNe, Int.reduceNe, String.reduceBEq, Int.reduceSub, Int.reduceAbs, Int.reduceLT, Int.reduceNeg, Nat.reduceDiv, Int.reduceBNe, Int.reduceDvd, Int.reduceAdd, Nat.reduceBEq, Nat.reduceSucc, String.reduceEq, Int.reduceLE, Int.reduceMod, reduceIte, Int.reduceFDiv, Int.reduceFMod, startD, List.map_cons, List.map_nil, List.length_cons, List.length_nil, List.replicate_succ, List.replicate_zero, Nat.reduceAdd, Nat.reduceSub, Nat.reduceMul, List.cons_append, List.nil_append, List.getElem?_cons_zero, List.getElem?_cons_succ, List.set_cons_zero, List.set_cons_succ, ↓reduceIte, decide_eq_true_eq, Bool.false_eq_true, Int.natCast_inj, Int.toNat_natCast, Option.isSome_some, Option.isSome_none, Option.isNone_none, Option.isNone_some, Bool.or_eq_true, Bool.and_eq_true, Bool.not_eq_true', decide_eq_false_iff_not, Bool.not_true, Bool.not_false, beq_self_eq_true, Option.map_some, Option.bind_some, true_and, and_true, false_and, and_false, or_true, true_or, or_false, false_or, Nat.reduceLeDiff, Nat.reduceLT, Bool.false_and, Bool.true_and, Bool.and_false, Bool.and_true, Nat.zero_le, List.length_map, List.length_set, List.length_append, List.length_zipIdx, List.length_range, gt_iff_lt, not_true_eq_false, not_false_eq_true, eq_self, Bool.false_xor, Bool.true_xor, Bool.xor_false, List.not_mem_nil, decide_true, decide_false, $[$es:term],*])
theorem right_ok {k : Nat} {m : Int × Int} (h : S[k]? = some (ml m)) (hm : mOk m) : ∃ m', mOk m' ∧ m__law_right_k24 [.cell k] S = .ok (.bl true) (S.set k (ml m')) := by
  have hk : k < S.length := (List.getElem?_eq_some_iff.mp h).1
  refine fz_ex (n := 14) (f := b__law_right_k24) (fun q => ∃ m', mOk m' ∧ q = .ok (.bl true) (S.set k (ml m'))) ?_
  exists b__law_right_k24
  generalize hX : m__law_grind _ _ = X
  obtain ⟨i, m1, i2, hm1, rfl⟩ := grind_at hX h hm (by omega) (by omega)
  clear hX
  obtain ⟨mo, hmo, hmo1, hmo8⟩ : ∃ mo : Nat, (∀ S, someR S (atI [Dv.int 3, .int 3, .int 8] (i : Int)) = .ok (.int mo) S) ∧ 0 < mo ∧ mo ≤ 8 := by
    have : i < 3 := by omega
    match i, this with
    | 0, _ => exact ⟨3, fun S => rfl, by omega, by omega⟩
    | 1, _ => exact ⟨3, fun S => rfl, by omega, by omega⟩
    | 2, _ => exact ⟨8, fun S => rfl, by omega, by omega⟩
  exists hmo
  generalize hX : m__law_manual _ _ = X
  obtain ⟨ks, rs0, m2, hks, hk0, hkm, hrs0, hrl0, hm2, e2⟩ := manual_ok (S := S.set k (ml m1)) (k := k) (most := mo) (count := 5) (get_set hk) hm1 hmo1 hmo8 (by omega)
  have e3 := hX.symm.trans e2
  rw [set_set] at e3
  subst e3
  clear hX e2
  have k8 := hks.l8
  have epl : Dv.tup [.lst (ks.map eN'), .lst (rs0.map eR)] = pl ks rs0 := rfl
  exists epl
  generalize hX : m__law_grind _ _ = X
  obtain ⟨i3, m3, i4, hm3, rfl⟩ := grind_at hX (get_set hk) hm2 (by omega) (by omega)
  clear hX
  obtain ⟨rs, m4, hrs, hrl, hm4, e4⟩ : ∃ (rs : List Ru) (m4 : Int × Int), Rul ks rs ∧ rs.length ≤ 8 ∧ mOk m4 ∧ (if (i3 : Int) = 0 then m__law_chain [.cell k, pl ks rs0] (S.set k (ml m3)) else .ok (pl ks rs0) (S.set k (ml m3))) = .ok (pl ks rs) (S.set k (ml m4)) := by
    by_cases e : (i3 : Int) = 0
    · obtain ⟨rs, m4, h1, h2, h3, h4⟩ := chain_ok (S := S.set k (ml m3)) (k := k) (get_set hk) hm3 hks hk0 hrs0 (by omega)
      rw [set_set] at h4
      exact ⟨rs, m4, h1, h2, h3, by rw [if_pos e]; exact h4⟩
    · exact ⟨rs0, m3, hrs0, by omega, hm3, by rw [if_neg e]⟩
  have cd : ∀ S, m__law_code [pl ks rs] S = .ok (bk ks (rank ks rs)) S := fun S => code_ok hks hrs (by omega)
  have hR := rank_gds hrs
  have hRl : (rank ks rs).length ≤ 8 := by rw [rank_len]; exact hrl
  exists e4, cd
  -- every rule over the kinds
  refine for_hold (enc := eN') (xs := ks) (chk := always) (S1 := S.set k (ml m4) ++ [.lst []]) (fun r ρ S' => ∃ (T : Sto) (e : Nat) (ev : List Ru) (x4 x5 : Option Dv), S' = S.set k (ml m4) ++ T ∧ T[e]? = some (.lst (ev.map eR)) ∧ (∀ q ∈ ev, gd ks q) ∧ ev.length + 64 * r.length ≤ 512 ∧
    ρ = [some (.cell k), some (pl ks rs), some (bk ks (rank ks rs)), some (.cell (S.length + e)), x4, x5, none, none, none, none, none, none, none, none]) ?_ trivial ⟨[.lst []], 0, [], none, none, rfl, rfl, by simp, by simp; omega, by simp⟩ ?_ ?_
  · exists id_is
  · rintro who r ρ S' hwho ⟨T, e, ev, x4, x5, rfl, te, hev, hel, rfl⟩
    rw [List.length_cons] at hel
    exists id_is
    generalize hP : Nxt always _ _ _ = P'
    refine for_hold (enc := eN') (xs := ks) (chk := always) (S1 := S.set k (ml m4) ++ T) (fun r2 ρ S' => ∃ (T : Sto) (e : Nat) (ev : List Ru) (x5 : Option Dv), S' = S.set k (ml m4) ++ T ∧ T[e]? = some (.lst (ev.map eR)) ∧ (∀ q ∈ ev, gd ks q) ∧ ev.length + 8 * r2.length + 64 * r.length ≤ 512 ∧
      ρ = [some (.cell k), some (pl ks rs), some (bk ks (rank ks rs)), some (.cell (S.length + e)), some (eN' who), x5, none, none, none, none, none, none, none, none]) ?_ trivial ⟨T, e, ev, x5, rfl, te, hev, by omega, rfl⟩ ?_ ?_
    · exists id_is
    · rintro whom r2 ρ S' hwhom ⟨T, e, ev, x5, rfl, te, hev, hel, rfl⟩
      rw [List.length_cons] at hel
      have nw := new_rules hks.nd hwho hwhom
      have hfl : (ks.filter fun x => decide ¬x = who).length ≤ 8 := Nat.le_trans (List.length_filter_le _ _) k8
      exists get_aft, te
      refine ⟨T ++ [.lst ((ev ++ (ks.filter fun x => decide ¬x = who).map fun x => (who, whom, x)).map eR)], T.length, _, some (eN' whom), rfl, List.getElem?_concat_length, fun q hq => ?_, ?_, rfl⟩
      · rcases List.mem_append.mp hq with hq | hq
        · exact hev q hq
        · exact nw.gd q hq
      · rw [List.length_append, List.length_map]; omega
    · rintro ρ S' ⟨T, e, ev, x5, rfl, te, hev, hel, rfl⟩
      subst hP
      exists id_is
      exact ⟨T, e, ev, _, _, rfl, te, hev, by rw [List.length_nil] at hel; omega, rfl⟩
  · rintro ρ S' ⟨T, e, ev, x4, x5, rfl, te, hev, hel, rfl⟩
    exists id_is
    rw [List.length_nil] at hel
    refine for_range (n := 8) (chk := always) (S1 := S.set k (ml m4) ++ T) (fun i ρ S' => ∃ (T : Sto) (ev : List Ru) (mm : Int × Int) (x4 x5 x6 x7 x8 : Option Dv), S' = S.set k (ml mm) ++ T ∧ mOk mm ∧ T[e]? = some (.lst (ev.map eR)) ∧ (∀ q ∈ ev, gd ks q) ∧ ev.length ≤ 512 ∧
      ρ = [some (.cell k), some (pl ks rs), some (bk ks (rank ks rs)), some (.cell (S.length + e)), x4, x5, x6, x7, x8, none, none, none, none, none]) ?_ trivial ⟨T, ev, m4, x4, x5, none, none, none, rfl, hm4, te, hev, by omega, rfl⟩ ?_ ?_
    · exists id_is
    · rintro i ρ S' hi ⟨T, ev, mm, x4, x5, x6, x7, x8, rfl, hmm, te, hev, hel, rfl⟩
      have ce := eq_nilC (h := not) iR (by decide) (S := S.set k (ml mm) ++ T) (k := S.length + e) (l := ev) (by rw [get_aft]; exact te)
      cases hev0 : ev with
      | nil =>
        subst hev0
        exists ce, List.isEmpty_nil
        exact ⟨T, [], mm, _, _, _, _, _, rfl, hmm, te, by simp, by simp, rfl⟩
      | cons a ev' =>
        have hne : ev.isEmpty = false := by rw [hev0]; rfl
        have hpos : 0 < ev.length := by rw [hev0]; simp
        obtain ⟨j, m5, j0, j3, hm5, e5⟩ := grind_ok (S := S.set k (ml mm) ++ T) (k := k) (c := ev.length) (get_mill hk) hmm (by omega) (by omega)
        obtain ⟨j, rfl⟩ := Int.eq_ofNat_of_zero_le j0
        rw [set_old (by rw [set_len]; exact hk), set_set] at e5
        obtain ⟨q, hq⟩ : ∃ q, ev[j]? = some q := ⟨ev[j]'(by omega), List.getElem?_eq_getElem (by omega)⟩
        have hg := hev q (List.mem_of_getElem? hq)
        have el := (List.getElem?_eq_some_iff.mp te).1
        exists ce, hne, e5, te, popO_map hq
        have te2 : (T.set e (.lst ((ev.eraseIdx j).map eR)))[e]? = some (.lst ((ev.eraseIdx j).map eR)) := List.getElem?_set_self el
        generalize hT2 : S.set k (ml m5) ++ T.set e (.lst ((ev.eraseIdx j).map eR)) = S2
        obtain ⟨b1, g1, q1⟩ := follows_ok (S := S2) (R := rank ks rs) k8 hR (by omega) hg
        obtain ⟨b2, g2, q2⟩ := comes_ok (S := S2) hks hrs.gd hg
        have eb : b1 = b2 := by rw [Bool.eq_iff_iff, q1, q2, Fol.rank]
        subst eb
        have ro : reprOk (.list [.bool b1, .bool b1]) = true := (rpr_two rpr_bool rpr_bool).ok (by omega) (by omega)
        have efx : ∀ i : Nat, i < ev.length → (ev.eraseIdx j).length ≤ 512 := fun _ _ => by rw [List.length_eraseIdx]; split <;> omega
        have fin : ∃ (T_1 : Sto) (ev_1 : List Ru) (mm_1 : Int × Int) (y4 y5 y6 y7 y8 : Option Dv), S2 = S.set k (ml mm_1) ++ T_1 ∧ mOk mm_1 ∧ T_1[e]? = some (.lst (ev_1.map eR)) ∧ (∀ q ∈ ev_1, gd ks q) ∧ ev_1.length ≤ 512 ∧
          [some (Dv.cell k), some (pl ks rs), some (bk ks (rank ks rs)), some (.cell (S.length + e)), x4, x5, some (.int i), some (eR q), some (.bl b1), none, none, none, none, none] = [some (Dv.cell k), some (pl ks rs), some (bk ks (rank ks rs)), some (.cell (S.length + e)), y4, y5, y6, y7, y8, none, none, none, none, none] :=
          ⟨T.set e (.lst ((ev.eraseIdx j).map eR)), ev.eraseIdx j, m5, _, _, _, _, _, hT2.symm, hm5, te2, fun r hr => hev r (List.mem_of_mem_eraseIdx hr), efx 0 hpos, rfl⟩
        have ia : ∀ h3 : ks.length ≤ 3, m__law_in_all [pl ks rs, eR q] S2 = .ok (.bl b1) S2 := fun h3 => by
          rw [in_all_ok h3 hrs.gd hg]
          congr 2
          rw [Bool.eq_iff_iff, q2]
          simp
        have ebb : oNe (.bl b1) (.bl b1) S2 = .ok (.bl false) S2 := by
          show oEqF not (.bl b1) (.bl b1) _ = _
          rw [en_eq iBl (by decide)]
          simp
        by_cases hi0 : i = 0
        · by_cases h4 : (ks.length : Int) < 4
          · have ia := ia (by omega)
            exists g2, g1, ro, hi0, h4, ia, ebb
            subst hi0
            exact fin
          · exists g2, g1, ro, hi0, h4
            subst hi0
            exact fin
        · have hi1 : ¬ ((i : Int) = 0) := by omega
          exists g2, g1, ro, hi1
          exact fin
    · rintro ρ S' ⟨T, ev, mm, x4, x5, x6, x7, x8, rfl, hmm, te, hev, hel, rfl⟩
      exists id_is
      have ct : ∀ {α : Type} (l : List α), cutD l none (some 3) = l.take 3 := fun l => cut_take (n := 3)
      have c2 : ∀ {α : Type} (l : List α), cutD l (some (-2)) none = l.drop (l.length - 2) := fun l => cut_neg (n := 1)
      have Rk := hrs.rank
      generalize hS : S.set k (ml mm) ++ T = S2
      have te2 : S2[S.length + e]? = some (.lst (ev.map eR)) := by rw [← hS, get_aft]; exact te
      refine for_hold (enc := eR) (xs := rs.take 3) (chk := always) (S1 := S2) (fun r ρ S' => ∃ (x4 x5 x6 x7 x8 x9 x10 x11 : Option Dv), S' = S2 ∧
        ρ = [some (.cell k), some (pl ks rs), some (bk ks (rank ks rs)), some (.cell (S.length + e)), x4, x5, x6, x7, x8, x9, x10, x11, none, none]) ?_ trivial ⟨_, _, _, _, _, _, _, _, rfl, rfl⟩ ?_ ?_
      · exists ct
      · rintro gone r ρ S' hgone ⟨x4, x5, x6, x7, x8, x9, x10, x11, rfl, rfl⟩
        have hgm : gone ∈ rs := List.mem_of_mem_take hgone
        have w := fun S => without_ok (S := S) hks Rk (by omega) ((rank_perm ks rs).mem_iff.mpr hgm)
        exists w, ins_bk1
        generalize hP : Nxt always _ _ _ = P'
        have el : Dv.tup [.lst (ks.map eN'), .lst ((rs.filter fun x => decide ¬x = gone).map eR)] = pl ks (rs.filter fun x => decide ¬x = gone) := rfl
        rw [el]
        have hl1 : (rs.drop (rs.length - 2)).length ≤ 8 := by rw [List.length_drop]; omega
        have hl2 : (ev.take 3).length ≤ 3 := List.length_take_le ..
        have R1 : Rul ks (rs.filter fun x => decide ¬x = gone) := hrs.filter fun x => decide ¬x = gone
        have R2 : Rul ks (DL.rank ks ((DL.rank ks rs).filter fun q => decide (q ≠ gone))) := (Rk.filter fun q => decide (q ≠ gone)).rank
        have l2 : (DL.rank ks ((DL.rank ks rs).filter fun q => decide (q ≠ gone))).length ≤ 8 := by
          rw [rank_len]
          exact Nat.le_trans (List.length_filter_le _ _) hRl
        refine for_hold (enc := eR) (xs := [gone] ++ rs.drop (rs.length - 2) ++ ev.take 3) (chk := always) (S1 := S') (fun r ρ S2 => ∃ (x7 : Option Dv), S2 = S' ∧
          ρ = [some (.cell k), some (pl ks rs), some (bk ks (rank ks rs)), some (.cell (S.length + e)), x4, x5, x6, x7, x8, some (eR gone), some (pl ks (rs.filter fun x => decide ¬x = gone)), some (bk ks (DL.rank ks ((DL.rank ks rs).filter fun q => decide (q ≠ gone)))), none, none]) ?_ trivial ⟨_, rfl, rfl⟩ ?_ ?_
        · have a1 : ∀ a b : List Ru, a.map eR ++ b.map eR = (a ++ b).map eR := fun a b => List.map_append.symm
          exists te2, ct, c2, a1
        · rintro q r2 ρ S2 hq ⟨x7, rfl, rfl⟩
          have hg : gd ks q := by
            rcases List.mem_append.mp hq with hq | hq
            · rcases List.mem_append.mp hq with hq | hq
              · rw [List.mem_singleton] at hq
                subst hq
                exact hrs.gd _ hgm
              · exact hrs.gd _ (List.mem_of_mem_drop hq)
            · exact hev _ (List.mem_of_mem_take hq)
          obtain ⟨b1, g1, q1⟩ := follows_ok (S := S2) k8 R2.gd (by omega) hg
          obtain ⟨b2, g2, q2⟩ := comes_ok (S := S2) hks R1.gd hg
          have eb : b1 = b2 := by
            rw [Bool.eq_iff_iff, q1, q2, Fol.rank]
            exact Fol.mem fun x => by simp [List.mem_filter, (rank_perm ks rs).mem_iff]
          subst eb
          have ebb : oNe (.bl b1) (.bl b1) S2 = .ok (.bl false) S2 := by
            show oEqF not (.bl b1) (.bl b1) _ = _
            rw [en_eq iBl (by decide)]
            simp
          exists g1, g2, ebb
          exact ⟨_, rfl⟩
        · rintro ρ S2 ⟨x7, rfl, rfl⟩
          subst hP
          exists id_is
          exact ⟨_, _, _, _, _, _, _, _, rfl⟩
      · rintro ρ S' ⟨x4, x5, x6, x7, x8, x9, x10, x11, rfl, rfl⟩
        subst hS
        exists cd, own_bk, beq_ok
        exact ⟨mm, hmm, fz_blST (low_ints (l := [mm.1, mm.2]))⟩
end
end DL

namespace DL
open PySem PySem.Spec PyProof.Rows L2
local macro_rules | `(tactic| exists $es,*) => `(tactic| simp (disch := first | omega | assumption | (simp only [*, Option.isSome_some, List.length_map, List.length_set]; done) | (simp only [*, Option.isSome_some, List.length_map, List.length_set]; omega)) only [DL.fmi_int, DL.fmi_nm, DL.fmi_eR, DL.hold_seq, DL.hold_nx, DL.hold_nx0, DL.hold_ret, DL.hold_brk, DL.hold_ct, DL.hold_exc, DL.toR_nx, DL.toR_ret, DL.toR_exc, DL.bnd_ok, DL.bnd_exc, DL.toS_ok, DL.toS_exc, DL.opt_some, DL.condR_true, DL.condR_of, DL.condS_true, DL.condS_of, DL.condR_bind, DL.condR_toS, DL.condR_condR, DL.getV_some, DL.ap_eV, DL.ap_eC, DL.ap_e1, DL.ap_e2, DL.ap_aNil, DL.ap_aCons, DL.ap_eN, DL.ap_eCall, DL.ap_eCallK, DL.ap_eMth, DL.ap_eMth0, DL.ap_eMthK, DL.ap_eM, DL.asB_bl, DL.ap_tV, DL.ap_tAnd, DL.ap_tOr, DL.ap_tNot, DL.ap_tYes, DL.ap_eIf, DL.andK_bl, DL.orK_bl, DL.ap_eAnd, DL.ap_eOr, DL.ap_uNot, DL.ap_uNeg, DL.ap_xNone, DL.asO_int, DL.ap_xSome, DL.ap_eSl, DL.chK_int, DL.ap_eCh, DL.ap_sNil, DL.ap_sBrk, DL.ap_sCt, DL.ap_sExpr, DL.ap_sRet, DL.ap_sSet, DL.ap_sIf, DL.ap_sAsg, DL.parK_ok, DL.ap_sPar, DL.ap_sRaise, DL.ap_sFld, DL.ap_gN, DL.ap_gTp, DL.ap_gsNil, DL.gsK_some, DL.ap_gsCons, DL.gUl_lst, DL.ap_gUl, DL.ap_gIx, DL.ixK_cell, DL.ixK2_int, DL.putO_lst, DL.putO_0, DL.putO_1, DL.putO_2, DL.asL_lst, DL.asR_lst, DL.asR_ro, DL.asQ_lst, DL.asQ_ro, DL.asQ_tup, DL.asQ_ktup, DL.lstO_lst, DL.asL_cell, DL.asR_cell, DL.asQ_cell, DL.isL_def, DL.add_int, DL.oI_int, DL.oIc_int, DL.oB_int, DL.is_non, DL.is_int, DL.is_str, DL.is_lst, DL.is_tup, DL.is_cell, DL.isn_non, DL.isn_int, DL.isn_str, DL.isn_lst, DL.isn_tup, DL.isn_cell, DL.mkT_ok, DL.mkL_ok, DL.mkC_ok, DL.add_lst, DL.addK_ok, DL.addC_ap, DL.lenO_some, DL.len_cell, DL.len_lst, DL.len_tup, DL.len_ktup, DL.len_ro, DL.bLen_of, DL.bInt_int, DL.bInt_bl, DL.bAbs_int, DL.bMax_int, DL.bMin_int, DL.lstK_some, DL.lstCK_some, DL.tupK_some, DL.ktupK_some, DL.bList_of, DL.bListC_of, DL.bTuple_tup, DL.tuple_cell, DL.tuple_lst, DL.tuple_ro, DL.tuple_ktup, DL.bTuple_of, DL.bTupleK_of, DL.mApp_ap, DL.appO_lst, DL.mPopAt_ap, DL.mulL_2, DL.someR_ok, DL.ixO_some, DL.ix_cell, DL.ix_lst, DL.ix_tup, DL.ix_ktup, DL.ix_ro, DL.ix_of, DL.sl_tup, DL.sl_lst, DL.slK_some, DL.sl_cell, DL.cut_take, DL.cut_drop, DL.take_map, DL.drop_map, DL.atI_map, DL.atI_0, DL.atI_1, DL.atI_2, DL.atI_3, DL.wipe_nil, DL.wipe_cons, DL.noexc_k, DL.noexc_c, DL.ap_turn, DL.trnK_some, DL.ap_lcD, DL.ap_eLc, DL.ap_eLcC, DL.lcK_typed, DL.lcT_ok, DL.lcT_cond, DL.always_is, DL.ite_ok, DL.ite_int, DL.ite_bl, DL.fm_int, DL.fm_bl, DL.fm_str, DL.fm_if, DL.ap_iSeq, DL.it_lst, DL.it_ro, DL.it_tup, DL.it_ktup, DL.itO_lst, DL.it_cell, DL.any_lst, DL.all_lst, DL.any_map', DL.all_map', DL.push_len, DL.push_push, DL.get_0, DL.get_1, DL.get_2, DL.set_0, DL.set_1, DL.set_2, DL.set_len, DL.set_set, DL.get_app, DL.set_app, DL.get_aft, DL.get_aft0, DL.set_aft, DL.set_aft0, DL.str_eq, DL.int_eq, DL.ints_eq, DL.intsT_eq, DL.id_is, DL.eq_nn, DL.eq_nilI, DL.eq_nilN, DL.sum_lst, DL.set_ints, DL.app_ints, DL.ite_true', DL.ite_false', DL.pickO_some, DL.pick_nil, DL.pick_cons, DL.fzR_py, DL.fz_non, DL.fz_nonT, DL.fz_int, DL.fz_intT, DL.fz_bl, DL.fz_blT, DL.fz_ints, DL.fz_intsT, DL.fz_tints, DL.fz_tintsT, DL.nxt_nx, DL.nxt_ct, DL.nxt_brk, DL.nxt_ret, DL.nxt_exc, DL.ap_iRg1, DL.ap_iRg2, DL.rgK_ok, DL.rgK2_ok, DL.ap_iEn, DL.enK_lst, DL.enK_ro, DL.ap_iZp, DL.zpK_tup, DL.zpK_lst, DL.turn_eI, DL.turn_eP, DL.len_str, DL.it_str, DL.in_ch, DL.app_map, DL.it_eR, DL.ix_eR0, DL.ix_eR1, DL.ix_eR2, DL.eq_nm, DL.eq_eR, DL.is_eR, DL.isn_eR, DL.eq_nilR, DL.rl_len, DL.atI_ix, DL.it_dI, DL.map_dI, DL.fm_eR, DL.fm_nm, DL.tup3_eR, DL.app_rs, DL.map_id'', DL.fm_dI, DL.tup_eR, DL.eta_nm, DL.eta_eR, DL.eta_dI, DL.bk_kinds, DL.bk_rules, DL.bk_of, DL.fz_nms, DL.fz_rs, DL.fz_bk, DL.kinds_ok, DL.rules_ok, DL.blen_ok, DL.prp_bk, DL.ins_bk1, DL.in_ktup, DL.in_rtup, DL.in_rlst, DL.eq_ktup, DL.eq_rtup, DL.eq_rlst, DL.eq_nlst, DL.isi_bk, DL.beq_ok, DL.own_bk, DL.wantB_bl, DL.lenO_bk, DL.isn_eCOL, DL.is_eCOL, DL.is_eCOT, DL.isn_eCOT, DL.it_eIT, DL.is_eIT, DL.repr_lst, DL.repr_tup, DL.repr_cell, DL.repr_eIL, DL.reprT_some, DL.py_int, DL.py_str, DL.py_bl, DL.py_non, DL.py_nm, DL.py_eR, DL.py_eIL, DL.py_lst', DL.py_tup', DL.pys_nil, DL.pys_cons, DL.pys_int, DL.pys_nm, DL.pys_eR, DL.pys_eIL, DL.py_cell', DL.cellPy_lst, DL.pyp_int, DL.pyp_nm, DL.pyp_eR, DL.pyp_eIL, DL.ix_pl0, DL.ix_pl1, DL.fm_lI, DL.it_lI, DL.par3K_ok, DL.ap_sPar3, DL.unset_nx, DL.unset_ct, DL.unset_brk, DL.unset_ret, DL.hold_try, DL.catch_nx, DL.catch_ct, DL.catch_brk, DL.catch_ret, DL.catch_exc, DL.hold_cat, DL.cat_no, DL.eO_ok, DL.sl_str, DL.add_str', DL.ix_str, DL.add_tup, DL.mul_9, DL.oInM_cell, DL.oNotInM_cell, DL.inO_dT, DL.putS_some, DL.ap_sPutM, DL.putM_cell, DL.putMO_dT, DL.ap_eDic1, DL.dicK_eIT, DL.dicO_nil, DL.isn_eMo, DL.sorted_cell, DL.sortO_lst, DL.eq_lIT, DL.inO_dK, DL.putMO_dK, DL.ap_eDik1, DL.dikK_str, DL.dikO_nil, DL.wl_nil, DL.wl_cons, DL.mReverse_ap, DL.revO_lst, DL.mClear_ap, DL.clrO_lst, DL.isn_eIL, DL.is_eIL, reduceDIte, Nat.reduceEqDiff, dreduceDIte, Int.reduceNegSucc, Nat.reduceOr, Nat.reducePow, Nat.reduceGT, Nat.reduceBneDiff, Nat.reduceSubDiff, Nat.reduceMod, Int.reduceGE, Int.reduceToNat, Int.reduceEq, dreduceIte, Int.reduceGT, Int.reducePow, Nat.reduceBNe, Int.reduceDiv, Int.reduceMul, reduceCtorEq, Int.reduceBEq, Nat.reduceBeqDiff, String.reduceNe, String.reduceBNe, Int.reduceNe, String.reduceBEq, Int.reduceSub, Int.reduceAbs, Int.reduceLT, Int.reduceNeg, Nat.reduceDiv, Int.reduceBNe, Int.reduceDvd, Int.reduceAdd, Nat.reduceBEq, Nat.reduceSucc, String.reduceEq, Int.reduceLE, Int.reduceMod, reduceIte, Int.reduceFDiv, Int.reduceFMod, startD, List.map_cons, List.map_nil, List.length_cons, List.length_nil, List.replicate_succ, List.replicate_zero, Nat.reduceAdd, Nat.reduceSub, Nat.reduceMul, List.cons_append, List.nil_append, List.getElem?_cons_zero, List.getElem?_cons_succ, List.set_cons_zero, List.set_cons_succ, ↓reduceIte, decide_eq_true_eq, Bool.false_eq_true, Int.natCast_inj, Int.toNat_natCast, Option.isSome_some, Option.isSome_none, Option.isNone_none, Option.isNone_some, Bool.or_eq_true, Bool.and_eq_true, Bool.not_eq_true', decide_eq_false_iff_not, Bool.not_true, Bool.not_false, beq_self_eq_true, Option.map_some, Option.bind_some, true_and, and_true, false_and, and_false, or_true, true_or, or_false, false_or, Nat.reduceLeDiff, Nat.reduceLT, Bool.false_and, Bool.true_and, Bool.and_false, Bool.and_true, Nat.zero_le, List.length_map, List.length_set, List.length_append, List.length_zipIdx, List.length_range, gt_iff_lt, not_true_eq_false, not_false_eq_true, eq_self, Bool.false_xor, Bool.true_xor, Bool.xor_false, List.not_mem_nil, decide_true, decide_false, $[$es:term],*])
theorem law_true (ns : List Int) (hn : ns.length ≤ 63) : ∃ S', m_law_k24 [.ro (ns.map .int)] [] = .ok (.bl true) S' := by
  refine fz_ex (n := 3) (f := b_law_k24) (fun q => ∃ S', q = .ok (.bl true) S') ?_
  exists b_law_k24
  generalize hN : (if (if (1 : Int) < ns.length then (ns.length : Int) else 1) < 10 then (if (1 : Int) < ns.length then (ns.length : Int) else 1) else 10) = N
  have hN0 : 0 ≤ N ∧ N ≤ 10 := by
    rw [← hN]
    split <;> split <;> omega
  obtain ⟨n, rfl⟩ := Int.eq_ofNat_of_zero_le hN0.1
  refine for_range (n := n) (chk := always) (S1 := []) (fun i ρ S' => ∃ (x y : Option Dv), ρ = [some (.ro (ns.map .int)), x, y]) ?_ trivial ⟨none, none, rfl⟩ ?_ ?_
  · exists hN
  · rintro i ρ S' hi ⟨x, y, rfl⟩
    obtain ⟨m, hm, e⟩ := mill_ok ns hn i (by omega) S'
    obtain ⟨m', hm', e2⟩ := right_ok (S := S' ++ [ml m]) (k := S'.length) get_0 hm
    exists e, e2
    exact ⟨_, _, rfl⟩
  · rintro ρ S' ⟨x, y, rfl⟩
    exists id_is
    exact fz_top
end DL

/-! law_k24_rules_that_follow: the end. -/
namespace DL
open PySem PySem.Spec PyProof.Rows L2
def gam (C2 : Addr) (C8 : Addr) (C3 : Addr) (C9 : Addr) (C4 : Addr) (C0 : Addr) : Nat → Addr := fun n => match n with
  | 2 => C2
  | 8 => C8
  | 3 => C3
  | 9 => C9
  | 4 => C4
  | 0 => C0
  | _ => 0
theorem all_mk {P : Program} {w : World} {K : PySem.W.Frag} {h : Heap} {mg : Str → Option Value} {fa : Addr} (X : K.In h) (G : h.Ns mainGlobals mg) (hfa : mg "law" = some (.ref fa))
    {C2 : Addr}
    {C8 : Addr}
    {C3 : Addr}
    {C9 : Addr}
    {C4 : Addr}
    {C0 : Addr}
    {t_LETTERS : Tok}
    {od__law_mill an__law_mill : Option Addr} {sl__law_mill : Array (Option Value)} {oc__law_mill kV__law_mill dc__law_mill pm__law_mill cd__law_mill ct__law_mill : Value} {f__law_mill : Addr}
    {od__law_grind an__law_grind : Option Addr} {sl__law_grind : Array (Option Value)} {oc__law_grind kV__law_grind dc__law_grind pm__law_grind cd__law_grind ct__law_grind : Value} {f__law_grind : Addr}
    {od__law_tribes an__law_tribes : Option Addr} {sl__law_tribes : Array (Option Value)} {oc__law_tribes kV__law_tribes dc__law_tribes pm__law_tribes cd__law_tribes ct__law_tribes : Value} {f__law_tribes : Addr}
    {od__law_manual an__law_manual : Option Addr} {sl__law_manual : Array (Option Value)} {oc__law_manual kV__law_manual dc__law_manual pm__law_manual cd__law_manual ct__law_manual : Value} {f__law_manual : Addr}
    {od__law_chain an__law_chain : Option Addr} {sl__law_chain : Array (Option Value)} {oc__law_chain kV__law_chain dc__law_chain pm__law_chain cd__law_chain ct__law_chain : Value} {f__law_chain : Addr}
    {od_is_name an_is_name : Option Addr} {sl_is_name : Array (Option Value)} {oc_is_name kV_is_name dc_is_name pm_is_name cd_is_name ct_is_name : Value} {f_is_name : Addr}
    {od_check_kinds an_check_kinds : Option Addr} {sl_check_kinds : Array (Option Value)} {oc_check_kinds kV_check_kinds dc_check_kinds pm_check_kinds cd_check_kinds ct_check_kinds : Value} {f_check_kinds : Addr}
    {od_check_rule an_check_rule : Option Addr} {sl_check_rule : Array (Option Value)} {oc_check_rule kV_check_rule dc_check_rule pm_check_rule cd_check_rule ct_check_rule : Value} {f_check_rule : Addr}
    {od_Book_init an_Book_init : Option Addr} {sl_Book_init : Array (Option Value)} {oc_Book_init kV_Book_init dc_Book_init pm_Book_init cd_Book_init ct_Book_init : Value} {f_Book_init : Addr}
    {od__law_code an__law_code : Option Addr} {sl__law_code : Array (Option Value)} {oc__law_code kV__law_code dc__law_code pm__law_code cd__law_code ct__law_code : Value} {f__law_code : Addr}
    {od__law_pair an__law_pair : Option Addr} {sl__law_pair : Array (Option Value)} {oc__law_pair kV__law_pair dc__law_pair pm__law_pair cd__law_pair ct__law_pair : Value} {f__law_pair : Addr}
    {od__law_turned_to an__law_turned_to : Option Addr} {sl__law_turned_to : Array (Option Value)} {oc__law_turned_to kV__law_turned_to dc__law_turned_to pm__law_turned_to cd__law_turned_to ct__law_turned_to : Value} {f__law_turned_to : Addr}
    {od__law_all_behind an__law_all_behind : Option Addr} {sl__law_all_behind : Array (Option Value)} {oc__law_all_behind kV__law_all_behind dc__law_all_behind pm__law_all_behind cd__law_all_behind ct__law_all_behind : Value} {f__law_all_behind : Addr}
    {od__law_comes an__law_comes : Option Addr} {sl__law_comes : Array (Option Value)} {oc__law_comes kV__law_comes dc__law_comes pm__law_comes cd__law_comes ct__law_comes : Value} {f__law_comes : Addr}
    {od_two_of an_two_of : Option Addr} {sl_two_of : Array (Option Value)} {oc_two_of kV_two_of dc_two_of pm_two_of cd_two_of ct_two_of : Value} {f_two_of : Addr}
    {od_moved an_moved : Option Addr} {sl_moved : Array (Option Value)} {oc_moved kV_moved dc_moved pm_moved cd_moved ct_moved : Value} {f_moved : Addr}
    {od_reached an_reached : Option Addr} {sl_reached : Array (Option Value)} {oc_reached kV_reached dc_reached pm_reached cd_reached ct_reached : Value} {f_reached : Addr}
    {od_follows_from an_follows_from : Option Addr} {sl_follows_from : Array (Option Value)} {oc_follows_from kV_follows_from dc_follows_from pm_follows_from cd_follows_from ct_follows_from : Value} {f_follows_from : Addr}
    {od_places_of an_places_of : Option Addr} {sl_places_of : Array (Option Value)} {oc_places_of kV_places_of dc_places_of pm_places_of cd_places_of ct_places_of : Value} {f_places_of : Addr}
    {od_moves_of an_moves_of : Option Addr} {sl_moves_of : Array (Option Value)} {oc_moves_of kV_moves_of dc_moves_of pm_moves_of cd_moves_of ct_moves_of : Value} {f_moves_of : Addr}
    {od_follows an_follows : Option Addr} {sl_follows : Array (Option Value)} {oc_follows kV_follows dc_follows pm_follows cd_follows ct_follows : Value} {f_follows : Addr}
    {od__law_herds an__law_herds : Option Addr} {sl__law_herds : Array (Option Value)} {oc__law_herds kV__law_herds dc__law_herds pm__law_herds cd__law_herds ct__law_herds : Value} {f__law_herds : Addr}
    {od__law_in_all an__law_in_all : Option Addr} {sl__law_in_all : Array (Option Value)} {oc__law_in_all kV__law_in_all dc__law_in_all pm__law_in_all cd__law_in_all ct__law_in_all : Value} {f__law_in_all : Addr}
    {p_Book_kinds : Addr} {rest_Book_kinds : List Value}
    {od_Book_kinds an_Book_kinds : Option Addr} {sl_Book_kinds : Array (Option Value)} {oc_Book_kinds kV_Book_kinds dc_Book_kinds pm_Book_kinds cd_Book_kinds ct_Book_kinds : Value} {f_Book_kinds : Addr}
    {od_Book_without an_Book_without : Option Addr} {sl_Book_without : Array (Option Value)} {oc_Book_without kV_Book_without dc_Book_without pm_Book_without cd_Book_without ct_Book_without : Value} {f_Book_without : Addr}
    {od_Book_eq an_Book_eq : Option Addr} {sl_Book_eq : Array (Option Value)} {oc_Book_eq kV_Book_eq dc_Book_eq pm_Book_eq cd_Book_eq ct_Book_eq : Value} {f_Book_eq : Addr}
    {od__law_right an__law_right : Option Addr} {sl__law_right : Array (Option Value)} {oc__law_right kV__law_right dc__law_right pm__law_right cd__law_right ct__law_right : Value} {f__law_right : Addr}
    {od_law an_law : Option Addr} {sl_law : Array (Option Value)} {oc_law kV_law dc_law pm_law cd_law ct_law : Value} {f_law : Addr}
    {od_err an_err : Option Addr} {sl_err : Array (Option Value)} {oc_err kV_err dc_err pm_err cd_err ct_err : Value} {f_err : Addr}
    {nm_CrowdError q_CrowdError : Str} {N_CrowdError : Addr} {bs_CrowdError sb_CrowdError : List Value} {sn_CrowdError : List Str} {ab_CrowdError : Bool} {cl_CrowdError : Option Bool} {dd_CrowdError : Option Addr} {m0_CrowdError m1_CrowdError m2_CrowdError m3_CrowdError m5_CrowdError : Option Value}
    {nm_InvalidName q_InvalidName : Str} {N_InvalidName : Addr} {bs_InvalidName sb_InvalidName : List Value} {sn_InvalidName : List Str} {ab_InvalidName : Bool} {cl_InvalidName : Option Bool} {dd_InvalidName : Option Addr} {m0_InvalidName m1_InvalidName m2_InvalidName m3_InvalidName m5_InvalidName : Option Value}
    {nm_DoubleName q_DoubleName : Str} {N_DoubleName : Addr} {bs_DoubleName sb_DoubleName : List Value} {sn_DoubleName : List Str} {ab_DoubleName : Bool} {cl_DoubleName : Option Bool} {dd_DoubleName : Option Addr} {m0_DoubleName m1_DoubleName m2_DoubleName m3_DoubleName m5_DoubleName : Option Value}
    {nm_InvalidRule q_InvalidRule : Str} {N_InvalidRule : Addr} {bs_InvalidRule sb_InvalidRule : List Value} {sn_InvalidRule : List Str} {ab_InvalidRule : Bool} {cl_InvalidRule : Option Bool} {dd_InvalidRule : Option Addr} {m0_InvalidRule m1_InvalidRule m2_InvalidRule m3_InvalidRule m5_InvalidRule : Option Value}
    {nm_DoubleRule q_DoubleRule : Str} {N_DoubleRule : Addr} {bs_DoubleRule sb_DoubleRule : List Value} {sn_DoubleRule : List Str} {ab_DoubleRule : Bool} {cl_DoubleRule : Option Bool} {dd_DoubleRule : Option Addr} {m0_DoubleRule m1_DoubleRule m2_DoubleRule m3_DoubleRule m5_DoubleRule : Option Value}
    (m_CrowdError : PySem.W.nsIn K mainGlobals "CrowdError" = some (some (.ref C2)))
    (m_InvalidName : PySem.W.nsIn K mainGlobals "InvalidName" = some (some (.ref C8)))
    (m_DoubleName : PySem.W.nsIn K mainGlobals "DoubleName" = some (some (.ref C3)))
    (m_InvalidRule : PySem.W.nsIn K mainGlobals "InvalidRule" = some (some (.ref C9)))
    (m_DoubleRule : PySem.W.nsIn K mainGlobals "DoubleRule" = some (some (.ref C4)))
    (m_Book : PySem.W.nsIn K mainGlobals "Book" = some (some (.ref C0)))
    (n_range : PySem.W.nsIn K mainGlobals "range" = some none)
    (n_len : PySem.W.nsIn K mainGlobals "len" = some none)
    (n_max : PySem.W.nsIn K mainGlobals "max" = some none)
    (n_min : PySem.W.nsIn K mainGlobals "min" = some none)
    (n_abs : PySem.W.nsIn K mainGlobals "abs" = some none)
    (n_int : PySem.W.nsIn K mainGlobals "int" = some none)
    (n_list : PySem.W.nsIn K mainGlobals "list" = some none)
    (c_LETTERS : PySem.W.nsIn K mainGlobals "LETTERS" = some (some (.str "abcdefghijklmnopqrstuvwxyz" t_LETTERS)))
    (n_all : PySem.W.nsIn K mainGlobals "all" = some none)
    (n_any : PySem.W.nsIn K mainGlobals "any" = some none)
    (n_tuple : PySem.W.nsIn K mainGlobals "tuple" = some none)
    (n_sorted : PySem.W.nsIn K mainGlobals "sorted" = some none)
    (n_enumerate : PySem.W.nsIn K mainGlobals "enumerate" = some none)
    (n_repr : PySem.W.nsIn K mainGlobals "repr" = some none)
    (n_sum : PySem.W.nsIn K mainGlobals "sum" = some none)
    (n_isinstance : PySem.W.nsIn K mainGlobals "isinstance" = some none)
    (a__law_mill : PySem.W.nsIn K mainGlobals "_law_mill" = some (some (.ref f__law_mill)))
    (l__law_mill : K.lookup f__law_mill = some ⟨oc__law_mill, od__law_mill, .func (PySem.W.fnOf "_law_mill" "_law_mill" (defArgs s__law_mill) (defBody s__law_mill) (defScope s__law_mill) .none kV__law_mill dc__law_mill pm__law_mill an__law_mill cd__law_mill ct__law_mill), sl__law_mill⟩)
    (cd_law_mill : PySem.W.codeIn K cd__law_mill "_law_mill" = true)
    (k__law_mill : PySem.W.keepIn K (.ref f__law_mill) = true)
    (a__law_grind : PySem.W.nsIn K mainGlobals "_law_grind" = some (some (.ref f__law_grind)))
    (l__law_grind : K.lookup f__law_grind = some ⟨oc__law_grind, od__law_grind, .func (PySem.W.fnOf "_law_grind" "_law_grind" (defArgs s__law_grind) (defBody s__law_grind) (defScope s__law_grind) .none kV__law_grind dc__law_grind pm__law_grind an__law_grind cd__law_grind ct__law_grind), sl__law_grind⟩)
    (cd_law_grind : PySem.W.codeIn K cd__law_grind "_law_grind" = true)
    (k__law_grind : PySem.W.keepIn K (.ref f__law_grind) = true)
    (a__law_tribes : PySem.W.nsIn K mainGlobals "_law_tribes" = some (some (.ref f__law_tribes)))
    (l__law_tribes : K.lookup f__law_tribes = some ⟨oc__law_tribes, od__law_tribes, .func (PySem.W.fnOf "_law_tribes" "_law_tribes" (defArgs s__law_tribes) (defBody s__law_tribes) (defScope s__law_tribes) .none kV__law_tribes dc__law_tribes pm__law_tribes an__law_tribes cd__law_tribes ct__law_tribes), sl__law_tribes⟩)
    (cd_law_tribes : PySem.W.codeIn K cd__law_tribes "_law_tribes" = true)
    (k__law_tribes : PySem.W.keepIn K (.ref f__law_tribes) = true)
    (a__law_manual : PySem.W.nsIn K mainGlobals "_law_manual" = some (some (.ref f__law_manual)))
    (l__law_manual : K.lookup f__law_manual = some ⟨oc__law_manual, od__law_manual, .func (PySem.W.fnOf "_law_manual" "_law_manual" (defArgs s__law_manual) (defBody s__law_manual) (defScope s__law_manual) .none kV__law_manual dc__law_manual pm__law_manual an__law_manual cd__law_manual ct__law_manual), sl__law_manual⟩)
    (cd_law_manual : PySem.W.codeIn K cd__law_manual "_law_manual" = true)
    (k__law_manual : PySem.W.keepIn K (.ref f__law_manual) = true)
    (a__law_chain : PySem.W.nsIn K mainGlobals "_law_chain" = some (some (.ref f__law_chain)))
    (l__law_chain : K.lookup f__law_chain = some ⟨oc__law_chain, od__law_chain, .func (PySem.W.fnOf "_law_chain" "_law_chain" (defArgs s__law_chain) (defBody s__law_chain) (defScope s__law_chain) .none kV__law_chain dc__law_chain pm__law_chain an__law_chain cd__law_chain ct__law_chain), sl__law_chain⟩)
    (cd_law_chain : PySem.W.codeIn K cd__law_chain "_law_chain" = true)
    (k__law_chain : PySem.W.keepIn K (.ref f__law_chain) = true)
    (a_is_name : PySem.W.nsIn K mainGlobals "is_name" = some (some (.ref f_is_name)))
    (l_is_name : K.lookup f_is_name = some ⟨oc_is_name, od_is_name, .func (PySem.W.fnOf "is_name" "is_name" (defArgs s_is_name) (defBody s_is_name) (defScope s_is_name) .none kV_is_name dc_is_name pm_is_name an_is_name cd_is_name ct_is_name), sl_is_name⟩)
    (cdis_name : PySem.W.codeIn K cd_is_name "is_name" = true)
    (k_is_name : PySem.W.keepIn K (.ref f_is_name) = true)
    (a_check_kinds : PySem.W.nsIn K mainGlobals "check_kinds" = some (some (.ref f_check_kinds)))
    (l_check_kinds : K.lookup f_check_kinds = some ⟨oc_check_kinds, od_check_kinds, .func (PySem.W.fnOf "check_kinds" "check_kinds" (defArgs s_check_kinds) (defBody s_check_kinds) (defScope s_check_kinds) .none kV_check_kinds dc_check_kinds pm_check_kinds an_check_kinds cd_check_kinds ct_check_kinds), sl_check_kinds⟩)
    (cdcheck_kinds : PySem.W.codeIn K cd_check_kinds "check_kinds" = true)
    (k_check_kinds : PySem.W.keepIn K (.ref f_check_kinds) = true)
    (a_check_rule : PySem.W.nsIn K mainGlobals "check_rule" = some (some (.ref f_check_rule)))
    (l_check_rule : K.lookup f_check_rule = some ⟨oc_check_rule, od_check_rule, .func (PySem.W.fnOf "check_rule" "check_rule" (defArgs s_check_rule) (defBody s_check_rule) (defScope s_check_rule) .none kV_check_rule dc_check_rule pm_check_rule an_check_rule cd_check_rule ct_check_rule), sl_check_rule⟩)
    (cdcheck_rule : PySem.W.codeIn K cd_check_rule "check_rule" = true)
    (k_check_rule : PySem.W.keepIn K (.ref f_check_rule) = true)
    (a_Book_init : PySem.W.findIn K (.ref C0) "__init__" = some (some (.ref f_Book_init)))
    (l_Book_init : K.lookup f_Book_init = some ⟨oc_Book_init, od_Book_init, .func (PySem.W.fnOf "__init__" "Book.__init__" (defArgs s_Book_init) (defBody s_Book_init) (defScope s_Book_init) .none kV_Book_init dc_Book_init pm_Book_init an_Book_init cd_Book_init ct_Book_init), sl_Book_init⟩)
    (cdBook_init : PySem.W.codeIn K cd_Book_init "Book.__init__" = true)
    (k_Book_init : PySem.W.keepIn K (.ref f_Book_init) = true)
    (i_Book_init : PySem.W.isFn K (.ref f_Book_init) = true)
    (a__law_code : PySem.W.nsIn K mainGlobals "_law_code" = some (some (.ref f__law_code)))
    (l__law_code : K.lookup f__law_code = some ⟨oc__law_code, od__law_code, .func (PySem.W.fnOf "_law_code" "_law_code" (defArgs s__law_code) (defBody s__law_code) (defScope s__law_code) .none kV__law_code dc__law_code pm__law_code an__law_code cd__law_code ct__law_code), sl__law_code⟩)
    (cd_law_code : PySem.W.codeIn K cd__law_code "_law_code" = true)
    (k__law_code : PySem.W.keepIn K (.ref f__law_code) = true)
    (a__law_pair : PySem.W.nsIn K mainGlobals "_law_pair" = some (some (.ref f__law_pair)))
    (l__law_pair : K.lookup f__law_pair = some ⟨oc__law_pair, od__law_pair, .func (PySem.W.fnOf "_law_pair" "_law_pair" (defArgs s__law_pair) (defBody s__law_pair) (defScope s__law_pair) .none kV__law_pair dc__law_pair pm__law_pair an__law_pair cd__law_pair ct__law_pair), sl__law_pair⟩)
    (cd_law_pair : PySem.W.codeIn K cd__law_pair "_law_pair" = true)
    (k__law_pair : PySem.W.keepIn K (.ref f__law_pair) = true)
    (a__law_turned_to : PySem.W.nsIn K mainGlobals "_law_turned_to" = some (some (.ref f__law_turned_to)))
    (l__law_turned_to : K.lookup f__law_turned_to = some ⟨oc__law_turned_to, od__law_turned_to, .func (PySem.W.fnOf "_law_turned_to" "_law_turned_to" (defArgs s__law_turned_to) (defBody s__law_turned_to) (defScope s__law_turned_to) .none kV__law_turned_to dc__law_turned_to pm__law_turned_to an__law_turned_to cd__law_turned_to ct__law_turned_to), sl__law_turned_to⟩)
    (cd_law_turned_to : PySem.W.codeIn K cd__law_turned_to "_law_turned_to" = true)
    (k__law_turned_to : PySem.W.keepIn K (.ref f__law_turned_to) = true)
    (a__law_all_behind : PySem.W.nsIn K mainGlobals "_law_all_behind" = some (some (.ref f__law_all_behind)))
    (l__law_all_behind : K.lookup f__law_all_behind = some ⟨oc__law_all_behind, od__law_all_behind, .func (PySem.W.fnOf "_law_all_behind" "_law_all_behind" (defArgs s__law_all_behind) (defBody s__law_all_behind) (defScope s__law_all_behind) .none kV__law_all_behind dc__law_all_behind pm__law_all_behind an__law_all_behind cd__law_all_behind ct__law_all_behind), sl__law_all_behind⟩)
    (cd_law_all_behind : PySem.W.codeIn K cd__law_all_behind "_law_all_behind" = true)
    (k__law_all_behind : PySem.W.keepIn K (.ref f__law_all_behind) = true)
    (a__law_comes : PySem.W.nsIn K mainGlobals "_law_comes" = some (some (.ref f__law_comes)))
    (l__law_comes : K.lookup f__law_comes = some ⟨oc__law_comes, od__law_comes, .func (PySem.W.fnOf "_law_comes" "_law_comes" (defArgs s__law_comes) (defBody s__law_comes) (defScope s__law_comes) .none kV__law_comes dc__law_comes pm__law_comes an__law_comes cd__law_comes ct__law_comes), sl__law_comes⟩)
    (cd_law_comes : PySem.W.codeIn K cd__law_comes "_law_comes" = true)
    (k__law_comes : PySem.W.keepIn K (.ref f__law_comes) = true)
    (a_two_of : PySem.W.nsIn K mainGlobals "two_of" = some (some (.ref f_two_of)))
    (l_two_of : K.lookup f_two_of = some ⟨oc_two_of, od_two_of, .func (PySem.W.fnOf "two_of" "two_of" (defArgs s_two_of) (defBody s_two_of) (defScope s_two_of) .none kV_two_of dc_two_of pm_two_of an_two_of cd_two_of ct_two_of), sl_two_of⟩)
    (cdtwo_of : PySem.W.codeIn K cd_two_of "two_of" = true)
    (k_two_of : PySem.W.keepIn K (.ref f_two_of) = true)
    (a_moved : PySem.W.nsIn K mainGlobals "moved" = some (some (.ref f_moved)))
    (l_moved : K.lookup f_moved = some ⟨oc_moved, od_moved, .func (PySem.W.fnOf "moved" "moved" (defArgs s_moved) (defBody s_moved) (defScope s_moved) .none kV_moved dc_moved pm_moved an_moved cd_moved ct_moved), sl_moved⟩)
    (cdmoved : PySem.W.codeIn K cd_moved "moved" = true)
    (k_moved : PySem.W.keepIn K (.ref f_moved) = true)
    (a_reached : PySem.W.nsIn K mainGlobals "reached" = some (some (.ref f_reached)))
    (l_reached : K.lookup f_reached = some ⟨oc_reached, od_reached, .func (PySem.W.fnOf "reached" "reached" (defArgs s_reached) (defBody s_reached) (defScope s_reached) .none kV_reached dc_reached pm_reached an_reached cd_reached ct_reached), sl_reached⟩)
    (cdreached : PySem.W.codeIn K cd_reached "reached" = true)
    (k_reached : PySem.W.keepIn K (.ref f_reached) = true)
    (a_follows_from : PySem.W.nsIn K mainGlobals "follows_from" = some (some (.ref f_follows_from)))
    (l_follows_from : K.lookup f_follows_from = some ⟨oc_follows_from, od_follows_from, .func (PySem.W.fnOf "follows_from" "follows_from" (defArgs s_follows_from) (defBody s_follows_from) (defScope s_follows_from) .none kV_follows_from dc_follows_from pm_follows_from an_follows_from cd_follows_from ct_follows_from), sl_follows_from⟩)
    (cdfollows_from : PySem.W.codeIn K cd_follows_from "follows_from" = true)
    (k_follows_from : PySem.W.keepIn K (.ref f_follows_from) = true)
    (a_places_of : PySem.W.nsIn K mainGlobals "places_of" = some (some (.ref f_places_of)))
    (l_places_of : K.lookup f_places_of = some ⟨oc_places_of, od_places_of, .func (PySem.W.fnOf "places_of" "places_of" (defArgs s_places_of) (defBody s_places_of) (defScope s_places_of) .none kV_places_of dc_places_of pm_places_of an_places_of cd_places_of ct_places_of), sl_places_of⟩)
    (cdplaces_of : PySem.W.codeIn K cd_places_of "places_of" = true)
    (k_places_of : PySem.W.keepIn K (.ref f_places_of) = true)
    (a_moves_of : PySem.W.nsIn K mainGlobals "moves_of" = some (some (.ref f_moves_of)))
    (l_moves_of : K.lookup f_moves_of = some ⟨oc_moves_of, od_moves_of, .func (PySem.W.fnOf "moves_of" "moves_of" (defArgs s_moves_of) (defBody s_moves_of) (defScope s_moves_of) .none kV_moves_of dc_moves_of pm_moves_of an_moves_of cd_moves_of ct_moves_of), sl_moves_of⟩)
    (cdmoves_of : PySem.W.codeIn K cd_moves_of "moves_of" = true)
    (k_moves_of : PySem.W.keepIn K (.ref f_moves_of) = true)
    (a_follows : PySem.W.nsIn K mainGlobals "follows" = some (some (.ref f_follows)))
    (l_follows : K.lookup f_follows = some ⟨oc_follows, od_follows, .func (PySem.W.fnOf "follows" "follows" (defArgs s_follows) (defBody s_follows) (defScope s_follows) .none kV_follows dc_follows pm_follows an_follows cd_follows ct_follows), sl_follows⟩)
    (cdfollows : PySem.W.codeIn K cd_follows "follows" = true)
    (k_follows : PySem.W.keepIn K (.ref f_follows) = true)
    (a__law_herds : PySem.W.nsIn K mainGlobals "_law_herds" = some (some (.ref f__law_herds)))
    (l__law_herds : K.lookup f__law_herds = some ⟨oc__law_herds, od__law_herds, .func (PySem.W.fnOf "_law_herds" "_law_herds" (defArgs s__law_herds) (defBody s__law_herds) (defScope s__law_herds) .none kV__law_herds dc__law_herds pm__law_herds an__law_herds cd__law_herds ct__law_herds), sl__law_herds⟩)
    (cd_law_herds : PySem.W.codeIn K cd__law_herds "_law_herds" = true)
    (k__law_herds : PySem.W.keepIn K (.ref f__law_herds) = true)
    (a__law_in_all : PySem.W.nsIn K mainGlobals "_law_in_all" = some (some (.ref f__law_in_all)))
    (l__law_in_all : K.lookup f__law_in_all = some ⟨oc__law_in_all, od__law_in_all, .func (PySem.W.fnOf "_law_in_all" "_law_in_all" (defArgs s__law_in_all) (defBody s__law_in_all) (defScope s__law_in_all) .none kV__law_in_all dc__law_in_all pm__law_in_all an__law_in_all cd__law_in_all ct__law_in_all), sl__law_in_all⟩)
    (cd_law_in_all : PySem.W.codeIn K cd__law_in_all "_law_in_all" = true)
    (k__law_in_all : PySem.W.keepIn K (.ref f__law_in_all) = true)
    (a_Book_kinds : PySem.W.findIn K (.ref C0) "kinds" = some (some (.ref p_Book_kinds)))
    (g_Book_kinds : PySem.W.specialIn K (.ref p_Book_kinds) "__get__" = some (some (.builtin "property.__get__")))
    (t_Book_kinds : PySem.W.takesIn K (.ref p_Book_kinds) = some true)
    (r_Book_kinds : PySem.W.recIn K p_Book_kinds "property" = some (.ref f_Book_kinds :: rest_Book_kinds))
    (l_Book_kinds : K.lookup f_Book_kinds = some ⟨oc_Book_kinds, od_Book_kinds, .func (PySem.W.fnOf "kinds" "Book.kinds" (defArgs s_Book_kinds) (defBody s_Book_kinds) (defScope s_Book_kinds) .none kV_Book_kinds dc_Book_kinds pm_Book_kinds an_Book_kinds cd_Book_kinds ct_Book_kinds), sl_Book_kinds⟩)
    (cdBook_kinds : PySem.W.codeIn K cd_Book_kinds "Book.kinds" = true)
    (k_Book_kinds : PySem.W.keepIn K (.ref f_Book_kinds) = true)
    (a_Book_without : PySem.W.findIn K (.ref C0) "without" = some (some (.ref f_Book_without)))
    (l_Book_without : K.lookup f_Book_without = some ⟨oc_Book_without, od_Book_without, .func (PySem.W.fnOf "without" "Book.without" (defArgs s_Book_without) (defBody s_Book_without) (defScope s_Book_without) .none kV_Book_without dc_Book_without pm_Book_without an_Book_without cd_Book_without ct_Book_without), sl_Book_without⟩)
    (cdBook_without : PySem.W.codeIn K cd_Book_without "Book.without" = true)
    (k_Book_without : PySem.W.keepIn K (.ref f_Book_without) = true)
    (i_Book_without : PySem.W.isFn K (.ref f_Book_without) = true)
    (a_Book_eq : PySem.W.findIn K (.ref C0) "__eq__" = some (some (.ref f_Book_eq)))
    (l_Book_eq : K.lookup f_Book_eq = some ⟨oc_Book_eq, od_Book_eq, .func (PySem.W.fnOf "__eq__" "Book.__eq__" (defArgs s_Book_eq) (defBody s_Book_eq) (defScope s_Book_eq) .none kV_Book_eq dc_Book_eq pm_Book_eq an_Book_eq cd_Book_eq ct_Book_eq), sl_Book_eq⟩)
    (cdBook_eq : PySem.W.codeIn K cd_Book_eq "Book.__eq__" = true)
    (k_Book_eq : PySem.W.keepIn K (.ref f_Book_eq) = true)
    (i_Book_eq : PySem.W.isFn K (.ref f_Book_eq) = true)
    (a__law_right : PySem.W.nsIn K mainGlobals "_law_right" = some (some (.ref f__law_right)))
    (l__law_right : K.lookup f__law_right = some ⟨oc__law_right, od__law_right, .func (PySem.W.fnOf "_law_right" "_law_right" (defArgs s__law_right) (defBody s__law_right) (defScope s__law_right) .none kV__law_right dc__law_right pm__law_right an__law_right cd__law_right ct__law_right), sl__law_right⟩)
    (cd_law_right : PySem.W.codeIn K cd__law_right "_law_right" = true)
    (k__law_right : PySem.W.keepIn K (.ref f__law_right) = true)
    (a_law : PySem.W.nsIn K mainGlobals "law" = some (some (.ref f_law)))
    (l_law : K.lookup f_law = some ⟨oc_law, od_law, .func (PySem.W.fnOf "law" "law" (defArgs s_law) (defBody s_law) (defScope s_law) .none kV_law dc_law pm_law an_law cd_law ct_law), sl_law⟩)
    (cdlaw : PySem.W.codeIn K cd_law "law" = true)
    (k_law : PySem.W.keepIn K (.ref f_law) = true)
    (pg_Book : PySem.W.plainGet K C0 Str.empty = true)
    (hd_Book : PySem.W.hasDictIn K C0 = true)
    (po_Book : PySem.W.plainOver K C0 = true)
    (sa_Book : PySem.W.findIn K (.ref C0) "__setattr__" = some (some (.builtin "object.__setattr__")))
    (mk_Book : PySem.W.makesIn K C0 = true)
    (kc_Book : PySem.W.keepIn K (.ref C0) = true)
    (na_Book_kept_kinds : PySem.W.findIn K (.ref C0) "kept_kinds" = some none)
    (na_Book_kept_rules : PySem.W.findIn K (.ref C0) "kept_rules" = some none)
    (ia_Book : PySem.W.findIn K (.ref C0) "__class__" = some (some (.builtin "object.__class__")))
    (im_Book : PySem.W.mroIn K C0 (.type "object") = some true)
    (sp_class : PySem.W.specialIn K (.builtin "object.__class__") "__get__" = some (some (.builtin "getset_descriptor.__get__")))
    (tk_class : PySem.W.takesIn K (.builtin "object.__class__") = some true)
    (e_CrowdError : PySem.W.findIn K (.ref C2) "__init__" = some (some (.ref f_err)))
    (l_err : K.lookup f_err = some ⟨oc_err, od_err, .func (PySem.W.fnOf "__init__" "CrowdError.__init__" (defArgs s_err) (defBody s_err) (defScope s_err) .none kV_err dc_err pm_err an_err cd_err ct_err), sl_err⟩)
    (cderr : PySem.W.codeIn K cd_err "CrowdError.__init__" = true)
    (k_err : PySem.W.keepIn K (.ref f_err) = true)
    (ty_err : PySem.W.typeIn K (.ref f_err) = some (.type "function"))
    (x_CrowdError : K.lookup C2 = some (excClassObj nm_CrowdError q_CrowdError C2 N_CrowdError bs_CrowdError [.type "ValueError", .type "Exception", .type "BaseException", .type "object"] true sn_CrowdError sb_CrowdError ab_CrowdError cl_CrowdError dd_CrowdError m0_CrowdError m1_CrowdError m2_CrowdError m3_CrowdError m5_CrowdError "ValueError.__new__"))
    (xs_CrowdError : PySem.W.findIn K (.ref C2) "__setattr__" = some (some (.builtin "object.__setattr__")))
    (xe_CrowdError : PySem.W.subIn K (.ref C2) (.type "BaseException") = some true)
    (xt_CrowdError : PySem.W.typeIn K (.ref C2) = some (.type "type"))
    (xk_CrowdError : PySem.W.keepIn K (.ref C2) = true)
    (xv_CrowdError : PySem.W.findIn K (.ref C2) "value" = some none)
    (x_InvalidName : K.lookup C8 = some (excClassObj nm_InvalidName q_InvalidName C8 N_InvalidName bs_InvalidName [.ref C2, .type "ValueError", .type "Exception", .type "BaseException", .type "object"] true sn_InvalidName sb_InvalidName ab_InvalidName cl_InvalidName dd_InvalidName m0_InvalidName m1_InvalidName m2_InvalidName m3_InvalidName m5_InvalidName "ValueError.__new__"))
    (xs_InvalidName : PySem.W.findIn K (.ref C8) "__setattr__" = some (some (.builtin "object.__setattr__")))
    (xe_InvalidName : PySem.W.subIn K (.ref C8) (.type "BaseException") = some true)
    (xt_InvalidName : PySem.W.typeIn K (.ref C8) = some (.type "type"))
    (xk_InvalidName : PySem.W.keepIn K (.ref C8) = true)
    (xv_InvalidName : PySem.W.findIn K (.ref C8) "value" = some none)
    (e_InvalidName : PySem.W.findIn K (.ref C8) "__init__" = some (some (.ref f_err)))
    (x_DoubleName : K.lookup C3 = some (excClassObj nm_DoubleName q_DoubleName C3 N_DoubleName bs_DoubleName [.ref C2, .type "ValueError", .type "Exception", .type "BaseException", .type "object"] true sn_DoubleName sb_DoubleName ab_DoubleName cl_DoubleName dd_DoubleName m0_DoubleName m1_DoubleName m2_DoubleName m3_DoubleName m5_DoubleName "ValueError.__new__"))
    (xs_DoubleName : PySem.W.findIn K (.ref C3) "__setattr__" = some (some (.builtin "object.__setattr__")))
    (xe_DoubleName : PySem.W.subIn K (.ref C3) (.type "BaseException") = some true)
    (xt_DoubleName : PySem.W.typeIn K (.ref C3) = some (.type "type"))
    (xk_DoubleName : PySem.W.keepIn K (.ref C3) = true)
    (xv_DoubleName : PySem.W.findIn K (.ref C3) "value" = some none)
    (e_DoubleName : PySem.W.findIn K (.ref C3) "__init__" = some (some (.ref f_err)))
    (x_InvalidRule : K.lookup C9 = some (excClassObj nm_InvalidRule q_InvalidRule C9 N_InvalidRule bs_InvalidRule [.ref C2, .type "ValueError", .type "Exception", .type "BaseException", .type "object"] true sn_InvalidRule sb_InvalidRule ab_InvalidRule cl_InvalidRule dd_InvalidRule m0_InvalidRule m1_InvalidRule m2_InvalidRule m3_InvalidRule m5_InvalidRule "ValueError.__new__"))
    (xs_InvalidRule : PySem.W.findIn K (.ref C9) "__setattr__" = some (some (.builtin "object.__setattr__")))
    (xe_InvalidRule : PySem.W.subIn K (.ref C9) (.type "BaseException") = some true)
    (xt_InvalidRule : PySem.W.typeIn K (.ref C9) = some (.type "type"))
    (xk_InvalidRule : PySem.W.keepIn K (.ref C9) = true)
    (xv_InvalidRule : PySem.W.findIn K (.ref C9) "value" = some none)
    (e_InvalidRule : PySem.W.findIn K (.ref C9) "__init__" = some (some (.ref f_err)))
    (x_DoubleRule : K.lookup C4 = some (excClassObj nm_DoubleRule q_DoubleRule C4 N_DoubleRule bs_DoubleRule [.ref C2, .type "ValueError", .type "Exception", .type "BaseException", .type "object"] true sn_DoubleRule sb_DoubleRule ab_DoubleRule cl_DoubleRule dd_DoubleRule m0_DoubleRule m1_DoubleRule m2_DoubleRule m3_DoubleRule m5_DoubleRule "ValueError.__new__"))
    (xs_DoubleRule : PySem.W.findIn K (.ref C4) "__setattr__" = some (some (.builtin "object.__setattr__")))
    (xe_DoubleRule : PySem.W.subIn K (.ref C4) (.type "BaseException") = some true)
    (xt_DoubleRule : PySem.W.typeIn K (.ref C4) = some (.type "type"))
    (xk_DoubleRule : PySem.W.keepIn K (.ref C4) = true)
    (xv_DoubleRule : PySem.W.findIn K (.ref C4) "value" = some none)
    (e_DoubleRule : PySem.W.findIn K (.ref C4) "__init__" = some (some (.ref f_err)))
    : ∃ (γ : Nat → Addr) (fd : FuncData), (∀ (s : Shared) (v : Value), BindsTo s fd ⟨[v], []⟩ [("script", v)]) ∧ ∀ base : Heap, K.In base → base.Ns mainGlobals mg → FnG P w K mg base 8 fa fd ["script"] (spD ⟨K, γ⟩ 1 DL.m_law_k24) := by
  have e := hfa.symm.trans (PySem.W.mg_of X G a_law)
  cases e
  refine ⟨gam C2 C8 C3 C9 C4 C0, PySem.W.fnOf "law" "law" (defArgs s_law) (defBody s_law) (defScope s_law) .none kV_law dc_law pm_law an_law cd_law ct_law, fun s v => .of_eq rfl, fun base _ _ => ?_⟩
  have T : Txt K mg (gam C2 C8 C3 C9 C4 C0) := {
    n_range := PySem.W.mg_none_of X G n_range,
    n_len := PySem.W.mg_none_of X G n_len,
    n_max := PySem.W.mg_none_of X G n_max,
    n_min := PySem.W.mg_none_of X G n_min,
    n_abs := PySem.W.mg_none_of X G n_abs,
    n_int := PySem.W.mg_none_of X G n_int,
    n_list := PySem.W.mg_none_of X G n_list,
    k_LETTERS := ⟨_, PySem.W.mg_of X G c_LETTERS⟩,
    n_all := PySem.W.mg_none_of X G n_all,
    n_any := PySem.W.mg_none_of X G n_any,
    c_Book := ⟨pg_Book, hd_Book, po_Book, sa_Book⟩,
    a_Book_kept_kinds := na_Book_kept_kinds,
    n_tuple := PySem.W.mg_none_of X G n_tuple,
    n_sorted := PySem.W.mg_none_of X G n_sorted,
    a_Book_kept_rules := na_Book_kept_rules,
    n_enumerate := PySem.W.mg_none_of X G n_enumerate,
    n_repr := PySem.W.mg_none_of X G n_repr,
    n_sum := PySem.W.mg_none_of X G n_sum,
    n_isinstance := PySem.W.mg_none_of X G n_isinstance,
    i_Book := ⟨⟨pg_Book, hd_Book, po_Book, sa_Book⟩, ia_Book, sp_class, tk_class, im_Book⟩,
    m_Book := PySem.W.mg_of X G m_Book }
  have ie : FnOk P w K mg base CX0 1 f_err _ ["self", "value"] (spErr K) := err_init (fun_mk (st := s_err) l_err cderr k_err) ⟨rfl, rfl, rfl, by decide +kernel, rfl, by decide +kernel, by decide +kernel⟩ rfl (Or.inl rfl) (Or.inl rfl)
  have be := (fun_mk (st := s_err) l_err cderr k_err).binds (ps := ["self", "value"]) fun _ _ _ _ _ _ us hl => match us, hl with | [_, _], _ => rfl
  have r_CrowdError : Rai (gam C2 C8 C3 C9 C4 C0) P w K mg base "CrowdError" 2 1 := ⟨PySem.W.mg_of X G m_CrowdError, ⟨⟨_, _, _, _, _, _, _, _, _, _, _, _, _, _, _, x_CrowdError, by first | decide +kernel | rfl⟩, xs_CrowdError, xe_CrowdError, xt_CrowdError, xk_CrowdError⟩, xv_CrowdError, _, _, _, e_CrowdError, ty_err, ie, be⟩
  have r_InvalidName : Rai (gam C2 C8 C3 C9 C4 C0) P w K mg base "InvalidName" 8 1 := ⟨PySem.W.mg_of X G m_InvalidName, ⟨⟨_, _, _, _, _, _, _, _, _, _, _, _, _, _, _, x_InvalidName, by first | decide +kernel | rfl⟩, xs_InvalidName, xe_InvalidName, xt_InvalidName, xk_InvalidName⟩, xv_InvalidName, _, _, _, e_InvalidName, ty_err, ie, be⟩
  have r_DoubleName : Rai (gam C2 C8 C3 C9 C4 C0) P w K mg base "DoubleName" 3 1 := ⟨PySem.W.mg_of X G m_DoubleName, ⟨⟨_, _, _, _, _, _, _, _, _, _, _, _, _, _, _, x_DoubleName, by first | decide +kernel | rfl⟩, xs_DoubleName, xe_DoubleName, xt_DoubleName, xk_DoubleName⟩, xv_DoubleName, _, _, _, e_DoubleName, ty_err, ie, be⟩
  have r_InvalidRule : Rai (gam C2 C8 C3 C9 C4 C0) P w K mg base "InvalidRule" 9 1 := ⟨PySem.W.mg_of X G m_InvalidRule, ⟨⟨_, _, _, _, _, _, _, _, _, _, _, _, _, _, _, x_InvalidRule, by first | decide +kernel | rfl⟩, xs_InvalidRule, xe_InvalidRule, xt_InvalidRule, xk_InvalidRule⟩, xv_InvalidRule, _, _, _, e_InvalidRule, ty_err, ie, be⟩
  have r_DoubleRule : Rai (gam C2 C8 C3 C9 C4 C0) P w K mg base "DoubleRule" 4 1 := ⟨PySem.W.mg_of X G m_DoubleRule, ⟨⟨_, _, _, _, _, _, _, _, _, _, _, _, _, _, _, x_DoubleRule, by first | decide +kernel | rfl⟩, xs_DoubleRule, xe_DoubleRule, xt_DoubleRule, xk_DoubleRule⟩, xv_DoubleRule, _, _, _, e_DoubleRule, ty_err, ie, be⟩
  have F__law_mill := fun_mk (st := s__law_mill) l__law_mill cd_law_mill k__law_mill
  have b__law_mill := F__law_mill.binds (ps := ["script", "place"]) fun _ _ _ _ _ _ us hl => match us, hl with | [_, _], _ => rfl
  have M__law_mill : FnG P w K mg base 1 f__law_mill _ ["script", "place"] (spD ⟨K, (gam C2 C8 C3 C9 C4 C0)⟩ 2 DL.m__law_mill) := ((ok__law_mill (P := P) (w := w) (base := base) T  F__law_mill)).told fun ds S _ _ _ => Le.refl _
  have h__law_mill : Cal (gam C2 C8 C3 C9 C4 C0) P w K mg base "_law_mill" 1 2 DL.m__law_mill := .fn M__law_mill (PySem.W.mg_of X G a__law_mill) k__law_mill b__law_mill
  have F__law_grind := fun_mk (st := s__law_grind) l__law_grind cd_law_grind k__law_grind
  have b__law_grind := F__law_grind.binds (ps := ["mill", "count"]) fun _ _ _ _ _ _ us hl => match us, hl with | [_, _], _ => rfl
  have M__law_grind : FnG P w K mg base 1 f__law_grind _ ["mill", "count"] (spD ⟨K, (gam C2 C8 C3 C9 C4 C0)⟩ 2 DL.m__law_grind) := ((ok__law_grind (P := P) (w := w) (base := base) T  F__law_grind)).told fun ds S _ c _ => fz_le _ ds S c
  have h__law_grind : Cal (gam C2 C8 C3 C9 C4 C0) P w K mg base "_law_grind" 1 2 DL.m__law_grind := .fn M__law_grind (PySem.W.mg_of X G a__law_grind) k__law_grind b__law_grind
  have F__law_tribes := fun_mk (st := s__law_tribes) l__law_tribes cd_law_tribes k__law_tribes
  have b__law_tribes := F__law_tribes.binds (ps := ["mill", "count"]) fun _ _ _ _ _ _ us hl => match us, hl with | [_, _], _ => rfl
  have M__law_tribes : FnG P w K mg base 2 f__law_tribes _ ["mill", "count"] (spD ⟨K, (gam C2 C8 C3 C9 C4 C0)⟩ 2 DL.m__law_tribes) := ((ok__law_tribes (P := P) (w := w) (base := base) T h__law_grind F__law_tribes)).told fun ds S _ c _ => fz_le _ ds S c
  have h__law_tribes : Cal (gam C2 C8 C3 C9 C4 C0) P w K mg base "_law_tribes" 2 2 DL.m__law_tribes := .fn M__law_tribes (PySem.W.mg_of X G a__law_tribes) k__law_tribes b__law_tribes
  have F__law_manual := fun_mk (st := s__law_manual) l__law_manual cd_law_manual k__law_manual
  have b__law_manual := F__law_manual.binds (ps := ["mill", "most", "count"]) fun _ _ _ _ _ _ us hl => match us, hl with | [_, _, _], _ => rfl
  have M__law_manual : FnG P w K mg base 3 f__law_manual _ ["mill", "most", "count"] (spD ⟨K, (gam C2 C8 C3 C9 C4 C0)⟩ 3 DL.m__law_manual) := ((ok__law_manual (P := P) (w := w) (base := base) T h__law_tribes h__law_grind F__law_manual)).told fun ds S _ c _ => fz_le _ ds S c
  have h__law_manual : Cal (gam C2 C8 C3 C9 C4 C0) P w K mg base "_law_manual" 3 3 DL.m__law_manual := .fn M__law_manual (PySem.W.mg_of X G a__law_manual) k__law_manual b__law_manual
  have F__law_chain := fun_mk (st := s__law_chain) l__law_chain cd_law_chain k__law_chain
  have b__law_chain := F__law_chain.binds (ps := ["mill", "plan"]) fun _ _ _ _ _ _ us hl => match us, hl with | [_, _], _ => rfl
  have M__law_chain : FnG P w K mg base 2 f__law_chain _ ["mill", "plan"] (spD ⟨K, (gam C2 C8 C3 C9 C4 C0)⟩ 2 DL.m__law_chain) := ((ok__law_chain (P := P) (w := w) (base := base) T h__law_grind F__law_chain)).told fun ds S _ c _ => fz_le _ ds S c
  have h__law_chain : Cal (gam C2 C8 C3 C9 C4 C0) P w K mg base "_law_chain" 2 2 DL.m__law_chain := .fn M__law_chain (PySem.W.mg_of X G a__law_chain) k__law_chain b__law_chain
  have F_is_name := fun_mk (st := s_is_name) l_is_name cdis_name k_is_name
  have b_is_name := F_is_name.binds (ps := ["name"]) fun _ _ _ _ _ _ us hl => match us, hl with | [_], _ => rfl
  have M_is_name : FnG P w K mg base 1 f_is_name _ ["name"] (spD ⟨K, (gam C2 C8 C3 C9 C4 C0)⟩ 1 DL.m_is_name) := ((ok_is_name (P := P) (w := w) (base := base) T  F_is_name)).told fun ds S _ c _ => fz_le _ ds S c
  have h_is_name : Cal (gam C2 C8 C3 C9 C4 C0) P w K mg base "is_name" 1 1 DL.m_is_name := .fn M_is_name (PySem.W.mg_of X G a_is_name) k_is_name b_is_name
  have F_check_kinds := fun_mk (st := s_check_kinds) l_check_kinds cdcheck_kinds k_check_kinds
  have b_check_kinds := F_check_kinds.binds (ps := ["names"]) fun _ _ _ _ _ _ us hl => match us, hl with | [_], _ => rfl
  have M_check_kinds : FnG P w K mg base 3 f_check_kinds _ ["names"] (spD ⟨K, (gam C2 C8 C3 C9 C4 C0)⟩ 1 DL.m_check_kinds) := ((ok_check_kinds (P := P) (w := w) (base := base) T h_is_name r_InvalidName r_DoubleName F_check_kinds)).told fun ds S _ c _ => fz_le _ ds S c
  have h_check_kinds : Cal (gam C2 C8 C3 C9 C4 C0) P w K mg base "check_kinds" 3 1 DL.m_check_kinds := .fn M_check_kinds (PySem.W.mg_of X G a_check_kinds) k_check_kinds b_check_kinds
  have F_check_rule := fun_mk (st := s_check_rule) l_check_rule cdcheck_rule k_check_rule
  have b_check_rule := F_check_rule.binds (ps := ["names", "rule"]) fun _ _ _ _ _ _ us hl => match us, hl with | [_, _], _ => rfl
  have M_check_rule : FnG P w K mg base 3 f_check_rule _ ["names", "rule"] (spD ⟨K, (gam C2 C8 C3 C9 C4 C0)⟩ 2 DL.m_check_rule) := ((ok_check_rule (P := P) (w := w) (base := base) T r_InvalidRule F_check_rule)).told fun ds S _ c _ => fz_le _ ds S c
  have h_check_rule : Cal (gam C2 C8 C3 C9 C4 C0) P w K mg base "check_rule" 3 2 DL.m_check_rule := .fn M_check_rule (PySem.W.mg_of X G a_check_rule) k_check_rule b_check_rule
  have F_Book_init := fun_mk (st := s_Book_init) l_Book_init cdBook_init k_Book_init
  have b_Book_init := F_Book_init.binds (ps := ["self", "kinds", "rules"]) fun _ _ _ _ _ _ us hl => match us, hl with | [_, _, _], _ => rfl
  have M_Book_init : FnG P w K mg base 4 f_Book_init _ ["self", "kinds", "rules"] (spD ⟨K, (gam C2 C8 C3 C9 C4 C0)⟩ 3 DL.m_Book_init) := ((ok_Book_init (P := P) (w := w) (base := base) T h_check_kinds h_check_rule r_DoubleRule F_Book_init)).told fun ds S _ c _ => fz_le _ ds S c
  have h_Book : Cal (gam C2 C8 C3 C9 C4 C0) P w K mg base "Book" 5 2 DL.m_Book := (Cal.make (c := 0) ⟨mk_Book, a_Book_init, i_Book_init, kc_Book⟩ M_Book_init (PySem.W.mg_of X G m_Book) b_Book_init).told (fun ds S _ c _ => fz_le _ ds S c)
  have F__law_code := fun_mk (st := s__law_code) l__law_code cd_law_code k__law_code
  have b__law_code := F__law_code.binds (ps := ["plan"]) fun _ _ _ _ _ _ us hl => match us, hl with | [_], _ => rfl
  have M__law_code : FnG P w K mg base 6 f__law_code _ ["plan"] (spD ⟨K, (gam C2 C8 C3 C9 C4 C0)⟩ 1 DL.m__law_code) := ((ok__law_code (P := P) (w := w) (base := base) T h_Book F__law_code)).told fun ds S _ c _ => fz_le _ ds S c
  have h__law_code : Cal (gam C2 C8 C3 C9 C4 C0) P w K mg base "_law_code" 6 1 DL.m__law_code := .fn M__law_code (PySem.W.mg_of X G a__law_code) k__law_code b__law_code
  have F__law_pair := fun_mk (st := s__law_pair) l__law_pair cd_law_pair k__law_pair
  have b__law_pair := F__law_pair.binds (ps := ["plan", "rule_here"]) fun _ _ _ _ _ _ us hl => match us, hl with | [_, _], _ => rfl
  have M__law_pair : FnG P w K mg base 1 f__law_pair _ ["plan", "rule_here"] (spD ⟨K, (gam C2 C8 C3 C9 C4 C0)⟩ 2 DL.m__law_pair) := ((ok__law_pair (P := P) (w := w) (base := base) T  F__law_pair)).told fun ds S _ c _ => fz_le _ ds S c
  have h__law_pair : Cal (gam C2 C8 C3 C9 C4 C0) P w K mg base "_law_pair" 1 2 DL.m__law_pair := .fn M__law_pair (PySem.W.mg_of X G a__law_pair) k__law_pair b__law_pair
  have F__law_turned_to := fun_mk (st := s__law_turned_to) l__law_turned_to cd_law_turned_to k__law_turned_to
  have b__law_turned_to := F__law_turned_to.binds (ps := ["plan", "herd", "rule_here"]) fun _ _ _ _ _ _ us hl => match us, hl with | [_, _, _], _ => rfl
  have M__law_turned_to : FnG P w K mg base 1 f__law_turned_to _ ["plan", "herd", "rule_here"] (spD ⟨K, (gam C2 C8 C3 C9 C4 C0)⟩ 3 DL.m__law_turned_to) := ((ok__law_turned_to (P := P) (w := w) (base := base) T  F__law_turned_to)).told fun ds S _ c _ => fz_le _ ds S c
  have h__law_turned_to : Cal (gam C2 C8 C3 C9 C4 C0) P w K mg base "_law_turned_to" 1 3 DL.m__law_turned_to := .fn M__law_turned_to (PySem.W.mg_of X G a__law_turned_to) k__law_turned_to b__law_turned_to
  have F__law_all_behind := fun_mk (st := s__law_all_behind) l__law_all_behind cd_law_all_behind k__law_all_behind
  have b__law_all_behind := F__law_all_behind.binds (ps := ["plan", "herd"]) fun _ _ _ _ _ _ us hl => match us, hl with | [_, _], _ => rfl
  have M__law_all_behind : FnG P w K mg base 2 f__law_all_behind _ ["plan", "herd"] (spD ⟨K, (gam C2 C8 C3 C9 C4 C0)⟩ 2 DL.m__law_all_behind) := ((ok__law_all_behind (P := P) (w := w) (base := base) T h__law_turned_to F__law_all_behind)).told fun ds S _ c _ => fz_le _ ds S c
  have h__law_all_behind : Cal (gam C2 C8 C3 C9 C4 C0) P w K mg base "_law_all_behind" 2 2 DL.m__law_all_behind := .fn M__law_all_behind (PySem.W.mg_of X G a__law_all_behind) k__law_all_behind b__law_all_behind
  have F__law_comes := fun_mk (st := s__law_comes) l__law_comes cd_law_comes k__law_comes
  have b__law_comes := F__law_comes.binds (ps := ["plan", "rule_here"]) fun _ _ _ _ _ _ us hl => match us, hl with | [_, _], _ => rfl
  have M__law_comes : FnG P w K mg base 3 f__law_comes _ ["plan", "rule_here"] (spD ⟨K, (gam C2 C8 C3 C9 C4 C0)⟩ 2 DL.m__law_comes) := ((ok__law_comes (P := P) (w := w) (base := base) T h__law_pair h__law_turned_to h__law_all_behind F__law_comes)).told fun ds S _ c _ => fz_le _ ds S c
  have h__law_comes : Cal (gam C2 C8 C3 C9 C4 C0) P w K mg base "_law_comes" 3 2 DL.m__law_comes := .fn M__law_comes (PySem.W.mg_of X G a__law_comes) k__law_comes b__law_comes
  have F_two_of := fun_mk (st := s_two_of) l_two_of cdtwo_of k_two_of
  have b_two_of := F_two_of.binds (ps := ["places", "many"]) fun _ _ _ _ _ _ us hl => match us, hl with | [_, _], _ => rfl
  have M_two_of : FnG P w K mg base 1 f_two_of _ ["places", "many"] (spD ⟨K, (gam C2 C8 C3 C9 C4 C0)⟩ 2 DL.m_two_of) := ((ok_two_of (P := P) (w := w) (base := base) T  F_two_of)).told fun ds S _ c _ => fz_le _ ds S c
  have h_two_of : Cal (gam C2 C8 C3 C9 C4 C0) P w K mg base "two_of" 1 2 DL.m_two_of := .fn M_two_of (PySem.W.mg_of X G a_two_of) k_two_of b_two_of
  have F_moved := fun_mk (st := s_moved) l_moved cdmoved k_moved
  have b_moved := F_moved.binds (ps := ["crowd", "places"]) fun _ _ _ _ _ _ us hl => match us, hl with | [_, _], _ => rfl
  have M_moved : FnG P w K mg base 1 f_moved _ ["crowd", "places"] (spD ⟨K, (gam C2 C8 C3 C9 C4 C0)⟩ 2 DL.m_moved) := ((ok_moved (P := P) (w := w) (base := base) T  F_moved)).told fun ds S _ c _ => fz_le _ ds S c
  have h_moved : Cal (gam C2 C8 C3 C9 C4 C0) P w K mg base "moved" 1 2 DL.m_moved := .fn M_moved (PySem.W.mg_of X G a_moved) k_moved b_moved
  have F_reached := fun_mk (st := s_reached) l_reached cdreached k_reached
  have b_reached := F_reached.binds (ps := ["moves", "crowd"]) fun _ _ _ _ _ _ us hl => match us, hl with | [_, _], _ => rfl
  have M_reached : FnG P w K mg base 2 f_reached _ ["moves", "crowd"] (spD ⟨K, (gam C2 C8 C3 C9 C4 C0)⟩ 2 DL.m_reached) := ((ok_reached (P := P) (w := w) (base := base) T h_moved F_reached)).told fun ds S _ c _ => fz_le _ ds S c
  have h_reached : Cal (gam C2 C8 C3 C9 C4 C0) P w K mg base "reached" 2 2 DL.m_reached := .fn M_reached (PySem.W.mg_of X G a_reached) k_reached b_reached
  have F_follows_from := fun_mk (st := s_follows_from) l_follows_from cdfollows_from k_follows_from
  have b_follows_from := F_follows_from.binds (ps := ["moves", "places", "many"]) fun _ _ _ _ _ _ us hl => match us, hl with | [_, _, _], _ => rfl
  have M_follows_from : FnG P w K mg base 3 f_follows_from _ ["moves", "places", "many"] (spD ⟨K, (gam C2 C8 C3 C9 C4 C0)⟩ 3 DL.m_follows_from) := ((ok_follows_from (P := P) (w := w) (base := base) T h_two_of h_moved h_reached F_follows_from)).told fun ds S _ c _ => fz_le _ ds S c
  have h_follows_from : Cal (gam C2 C8 C3 C9 C4 C0) P w K mg base "follows_from" 3 3 DL.m_follows_from := .fn M_follows_from (PySem.W.mg_of X G a_follows_from) k_follows_from b_follows_from
  have F_places_of := fun_mk (st := s_places_of) l_places_of cdplaces_of k_places_of
  have b_places_of := F_places_of.binds (ps := ["book", "rule"]) fun _ _ _ _ _ _ us hl => match us, hl with | [_, _], _ => rfl
  have M_places_of : FnG P w K mg base 1 f_places_of _ ["book", "rule"] (spD ⟨K, (gam C2 C8 C3 C9 C4 C0)⟩ 2 DL.m_places_of) := ((ok_places_of (P := P) (w := w) (base := base) T  F_places_of)).told fun ds S _ c _ => fz_le _ ds S c
  have h_places_of : Cal (gam C2 C8 C3 C9 C4 C0) P w K mg base "places_of" 1 2 DL.m_places_of := .fn M_places_of (PySem.W.mg_of X G a_places_of) k_places_of b_places_of
  have F_moves_of := fun_mk (st := s_moves_of) l_moves_of cdmoves_of k_moves_of
  have b_moves_of := F_moves_of.binds (ps := ["book"]) fun _ _ _ _ _ _ us hl => match us, hl with | [_], _ => rfl
  have M_moves_of : FnG P w K mg base 2 f_moves_of _ ["book"] (spD ⟨K, (gam C2 C8 C3 C9 C4 C0)⟩ 1 DL.m_moves_of) := ((ok_moves_of (P := P) (w := w) (base := base) T h_places_of F_moves_of)).told fun ds S _ c _ => fz_le _ ds S c
  have h_moves_of : Cal (gam C2 C8 C3 C9 C4 C0) P w K mg base "moves_of" 2 1 DL.m_moves_of := .fn M_moves_of (PySem.W.mg_of X G a_moves_of) k_moves_of b_moves_of
  have F_follows := fun_mk (st := s_follows) l_follows cdfollows k_follows
  have b_follows := F_follows.binds (ps := ["book", "rule"]) fun _ _ _ _ _ _ us hl => match us, hl with | [_, _], _ => rfl
  have M_follows : FnG P w K mg base 4 f_follows _ ["book", "rule"] (spD ⟨K, (gam C2 C8 C3 C9 C4 C0)⟩ 2 DL.m_follows) := ((ok_follows (P := P) (w := w) (base := base) T h_check_rule h_follows_from h_moves_of h_places_of F_follows)).told fun ds S _ c _ => fz_le _ ds S c
  have h_follows_rule_book : CalK (gam C2 C8 C3 C9 C4 C0) P w K mg base "follows" 4 0 ["rule", "book"] (fun ds es S => DL.m_follows (pick [1, 0] (ds ++ es)) S) := CalK.fn (perm := [1, 0]) M_follows (PySem.W.mg_of X G a_follows) k_follows (Fun.kb F_follows (perm := [1, 0]) fun _ _ _ _ _ _ us ws hl h2 => match us, ws, hl, h2 with | [], [_, _], _, _ => rfl) rfl (by decide)
  have h_follows : Cal (gam C2 C8 C3 C9 C4 C0) P w K mg base "follows" 4 2 DL.m_follows := .fn M_follows (PySem.W.mg_of X G a_follows) k_follows b_follows
  have F__law_herds := fun_mk (st := s__law_herds) l__law_herds cd_law_herds k__law_herds
  have b__law_herds := F__law_herds.binds (ps := ["count", "members"]) fun _ _ _ _ _ _ us hl => match us, hl with | [_, _], _ => rfl
  have M__law_herds : FnG P w K mg base 1 f__law_herds _ ["count", "members"] (spD ⟨K, (gam C2 C8 C3 C9 C4 C0)⟩ 2 DL.m__law_herds) := ((ok__law_herds (P := P) (w := w) (base := base) T  F__law_herds)).told fun ds S _ c _ => fz_le _ ds S c
  have h__law_herds : Cal (gam C2 C8 C3 C9 C4 C0) P w K mg base "_law_herds" 1 2 DL.m__law_herds := .fn M__law_herds (PySem.W.mg_of X G a__law_herds) k__law_herds b__law_herds
  have F__law_in_all := fun_mk (st := s__law_in_all) l__law_in_all cd_law_in_all k__law_in_all
  have b__law_in_all := F__law_in_all.binds (ps := ["plan", "rule_here"]) fun _ _ _ _ _ _ us hl => match us, hl with | [_, _], _ => rfl
  have M__law_in_all : FnG P w K mg base 3 f__law_in_all _ ["plan", "rule_here"] (spD ⟨K, (gam C2 C8 C3 C9 C4 C0)⟩ 2 DL.m__law_in_all) := ((ok__law_in_all (P := P) (w := w) (base := base) T h__law_herds h__law_turned_to h__law_all_behind F__law_in_all)).told fun ds S _ c _ => fz_le _ ds S c
  have h__law_in_all : Cal (gam C2 C8 C3 C9 C4 C0) P w K mg base "_law_in_all" 3 2 DL.m__law_in_all := .fn M__law_in_all (PySem.W.mg_of X G a__law_in_all) k__law_in_all b__law_in_all
  have F_Book_kinds := fun_mk (st := s_Book_kinds) l_Book_kinds cdBook_kinds k_Book_kinds
  have b_Book_kinds := F_Book_kinds.binds (ps := ["self"]) fun _ _ _ _ _ _ us hl => match us, hl with | [_], _ => rfl
  have M_Book_kinds : FnG P w K mg base 1 f_Book_kinds _ ["self"] (spD ⟨K, (gam C2 C8 C3 C9 C4 C0)⟩ 1 DL.m_Book_kinds) := ((ok_Book_kinds (P := P) (w := w) (base := base) T  F_Book_kinds)).told fun ds S _ c _ => fz_le _ ds S c
  have h_Book_kinds : Prp (gam C2 C8 C3 C9 C4 C0) P w K mg base 0 "kinds" 1 DL.m_Book_kinds := ⟨p_Book_kinds, f_Book_kinds, _, _, ⟨pg_Book, hd_Book, po_Book, sa_Book⟩, ⟨a_Book_kinds, g_Book_kinds, t_Book_kinds, ⟨_, r_Book_kinds⟩⟩, b_Book_kinds, M_Book_kinds⟩
  have F_Book_without := fun_mk (st := s_Book_without) l_Book_without cdBook_without k_Book_without
  have b_Book_without := F_Book_without.binds (ps := ["self", "rule"]) fun _ _ _ _ _ _ us hl => match us, hl with | [_, _], _ => rfl
  have M_Book_without : FnG P w K mg base 6 f_Book_without _ ["self", "rule"] (spD ⟨K, (gam C2 C8 C3 C9 C4 C0)⟩ 2 DL.m_Book_without) := ((ok_Book_without (P := P) (w := w) (base := base) T r_InvalidRule h_Book h_Book_kinds F_Book_without)).told fun ds S _ c _ => fz_le _ ds S c
  have o_Book_without : Own (gam C2 C8 C3 C9 C4 C0) P w K mg base 0 "without" 6 1 DL.m_Book_without := ⟨f_Book_without, _, _, ⟨pg_Book, hd_Book, po_Book, sa_Book⟩, ⟨a_Book_without, i_Book_without, k_Book_without⟩, b_Book_without, M_Book_without⟩
  have h_Book_without := (o_Book_without).mth
  have F_Book_eq := fun_mk (st := s_Book_eq) l_Book_eq cdBook_eq k_Book_eq
  have b_Book_eq := F_Book_eq.binds (ps := ["self", "other"]) fun _ _ _ _ _ _ us hl => match us, hl with | [_, _], _ => rfl
  have M_Book_eq : FnG P w K mg base 1 f_Book_eq _ ["self", "other"] (spD ⟨K, (gam C2 C8 C3 C9 C4 C0)⟩ 2 DL.m_Book_eq) := ((ok_Book_eq (P := P) (w := w) (base := base) T  F_Book_eq)).told fun ds S _ c _ => fz_le _ ds S c
  have o_Book_eq : Own (gam C2 C8 C3 C9 C4 C0) P w K mg base 0 "__eq__" 1 1 DL.m_Book_eq := ⟨f_Book_eq, _, _, ⟨pg_Book, hd_Book, po_Book, sa_Book⟩, ⟨a_Book_eq, i_Book_eq, k_Book_eq⟩, b_Book_eq, M_Book_eq⟩
  have h_Book_eq := (o_Book_eq).mth
  have F__law_right := fun_mk (st := s__law_right) l__law_right cd_law_right k__law_right
  have b__law_right := F__law_right.binds (ps := ["mill"]) fun _ _ _ _ _ _ us hl => match us, hl with | [_], _ => rfl
  have M__law_right : FnG P w K mg base 7 f__law_right _ ["mill"] (spD ⟨K, (gam C2 C8 C3 C9 C4 C0)⟩ 1 DL.m__law_right_k24) := ((ok__law_right (P := P) (w := w) (base := base) T h__law_manual h__law_grind h__law_chain h__law_code h__law_comes h_follows h_follows_rule_book h__law_in_all h_Book_without o_Book_eq F__law_right)).told fun ds S _ c _ => fz_le _ ds S c
  have h__law_right : Cal (gam C2 C8 C3 C9 C4 C0) P w K mg base "_law_right" 7 1 DL.m__law_right_k24 := .fn M__law_right (PySem.W.mg_of X G a__law_right) k__law_right b__law_right
  have F_law := fun_mk (st := s_law) l_law cdlaw k_law
  have b_law := F_law.binds (ps := ["script"]) fun _ _ _ _ _ _ us hl => match us, hl with | [_], _ => rfl
  have M_law : FnG P w K mg base 8 fa _ ["script"] (spD ⟨K, (gam C2 C8 C3 C9 C4 C0)⟩ 1 DL.m_law_k24) := ((ok_law (P := P) (w := w) (base := base) T h__law_mill h__law_right F_law)).told fun ds S _ c _ => fz_le _ ds S c
  have h_law : Cal (gam C2 C8 C3 C9 C4 C0) P w K mg base "law" 8 1 DL.m_law_k24 := .fn M_law (PySem.W.mg_of X G a_law) k_law b_law
  exact M_law
end DL

open PySem PySem.W PyProof.Rows in
set_option maxRecDepth 100000 in
set_option maxHeartbeats 0 in
theorem PySem.Challenge.cw_lookcrowd_k24_rules_that_follow_holds : PySem.Challenge.rw_lookcrowd_k24_rules_that_follow.Holds := by
  w_on; o_law; k_head; (case hw => w_witness2)
  k_fill
  refine DL.walkG (l := PySem.Challenge.rw_lookcrowd_k24_rules_that_follow) (n := 63) (k := 8) (x := "script") (g := DL.m_law_k24) rfl (by decide) rfl ⟨rfl, by decide, by decide⟩ (fun w h Y => PySem.W.kIn_of Y) ?F DL.law_true
  case F =>
    intro w mg fa h KX G hmg
    refine' DL.all_mk KX G hmg ?m_CrowdError ?m_InvalidName ?m_DoubleName ?m_InvalidRule ?m_DoubleRule ?m_Book ?n_range ?n_len ?n_max ?n_min ?n_abs ?n_int ?n_list ?c_LETTERS ?n_all ?n_any ?n_tuple ?n_sorted ?n_enumerate ?n_repr ?n_sum ?n_isinstance ?a__law_mill ?l__law_mill ?cd_law_mill ?k__law_mill ?a__law_grind ?l__law_grind ?cd_law_grind ?k__law_grind ?a__law_tribes ?l__law_tribes ?cd_law_tribes ?k__law_tribes ?a__law_manual ?l__law_manual ?cd_law_manual ?k__law_manual ?a__law_chain ?l__law_chain ?cd_law_chain ?k__law_chain ?a_is_name ?l_is_name ?cdis_name ?k_is_name ?a_check_kinds ?l_check_kinds ?cdcheck_kinds ?k_check_kinds ?a_check_rule ?l_check_rule ?cdcheck_rule ?k_check_rule ?a_Book_init ?l_Book_init ?cdBook_init ?k_Book_init ?i_Book_init ?a__law_code ?l__law_code ?cd_law_code ?k__law_code ?a__law_pair ?l__law_pair ?cd_law_pair ?k__law_pair ?a__law_turned_to ?l__law_turned_to ?cd_law_turned_to ?k__law_turned_to ?a__law_all_behind ?l__law_all_behind ?cd_law_all_behind ?k__law_all_behind ?a__law_comes ?l__law_comes ?cd_law_comes ?k__law_comes ?a_two_of ?l_two_of ?cdtwo_of ?k_two_of ?a_moved ?l_moved ?cdmoved ?k_moved ?a_reached ?l_reached ?cdreached ?k_reached ?a_follows_from ?l_follows_from ?cdfollows_from ?k_follows_from ?a_places_of ?l_places_of ?cdplaces_of ?k_places_of ?a_moves_of ?l_moves_of ?cdmoves_of ?k_moves_of ?a_follows ?l_follows ?cdfollows ?k_follows ?a__law_herds ?l__law_herds ?cd_law_herds ?k__law_herds ?a__law_in_all ?l__law_in_all ?cd_law_in_all ?k__law_in_all ?a_Book_kinds ?g_Book_kinds ?t_Book_kinds ?r_Book_kinds ?l_Book_kinds ?cdBook_kinds ?k_Book_kinds ?a_Book_without ?l_Book_without ?cdBook_without ?k_Book_without ?i_Book_without ?a_Book_eq ?l_Book_eq ?cdBook_eq ?k_Book_eq ?i_Book_eq ?a__law_right ?l__law_right ?cd_law_right ?k__law_right ?a_law ?l_law ?cdlaw ?k_law ?pg_Book ?hd_Book ?po_Book ?sa_Book ?mk_Book ?kc_Book ?na_Book_kept_kinds ?na_Book_kept_rules ?ia_Book ?im_Book ?sp_class ?tk_class ?e_CrowdError ?l_err ?cderr ?k_err ?ty_err ?x_CrowdError ?xs_CrowdError ?xe_CrowdError ?xt_CrowdError ?xk_CrowdError ?xv_CrowdError ?x_InvalidName ?xs_InvalidName ?xe_InvalidName ?xt_InvalidName ?xk_InvalidName ?xv_InvalidName ?e_InvalidName ?x_DoubleName ?xs_DoubleName ?xe_DoubleName ?xt_DoubleName ?xk_DoubleName ?xv_DoubleName ?e_DoubleName ?x_InvalidRule ?xs_InvalidRule ?xe_InvalidRule ?xt_InvalidRule ?xk_InvalidRule ?xv_InvalidRule ?e_InvalidRule ?x_DoubleRule ?xs_DoubleRule ?xe_DoubleRule ?xt_DoubleRule ?xk_DoubleRule ?xv_DoubleRule ?e_DoubleRule
    (case m_CrowdError => first | k_is | rfl)
    (case m_InvalidName => first | k_is | rfl)
    (case m_DoubleName => first | k_is | rfl)
    (case m_InvalidRule => first | k_is | rfl)
    (case m_DoubleRule => first | k_is | rfl)
    (case m_Book => first | k_is | rfl)
    (case n_range => first | k_is | rfl)
    (case n_len => first | k_is | rfl)
    (case n_max => first | k_is | rfl)
    (case n_min => first | k_is | rfl)
    (case n_abs => first | k_is | rfl)
    (case n_int => first | k_is | rfl)
    (case n_list => first | k_is | rfl)
    (case c_LETTERS => first | k_is | rfl)
    (case n_all => first | k_is | rfl)
    (case n_any => first | k_is | rfl)
    (case n_tuple => first | k_is | rfl)
    (case n_sorted => first | k_is | rfl)
    (case n_enumerate => first | k_is | rfl)
    (case n_repr => first | k_is | rfl)
    (case n_sum => first | k_is | rfl)
    (case n_isinstance => first | k_is | rfl)
    (case a__law_mill => first | k_is | rfl)
    (case l__law_mill => first | k_is | rfl)
    (case cd_law_mill => first | k_is | rfl)
    (case k__law_mill => first | k_is | rfl)
    (case a__law_grind => first | k_is | rfl)
    (case l__law_grind => first | k_is | rfl)
    (case cd_law_grind => first | k_is | rfl)
    (case k__law_grind => first | k_is | rfl)
    (case a__law_tribes => first | k_is | rfl)
    (case l__law_tribes => first | k_is | rfl)
    (case cd_law_tribes => first | k_is | rfl)
    (case k__law_tribes => first | k_is | rfl)
    (case a__law_manual => first | k_is | rfl)
    (case l__law_manual => first | k_is | rfl)
    (case cd_law_manual => first | k_is | rfl)
    (case k__law_manual => first | k_is | rfl)
    (case a__law_chain => first | k_is | rfl)
    (case l__law_chain => first | k_is | rfl)
    (case cd_law_chain => first | k_is | rfl)
    (case k__law_chain => first | k_is | rfl)
    (case a_is_name => first | k_is | rfl)
    (case l_is_name => first | k_is | rfl)
    (case cdis_name => first | k_is | rfl)
    (case k_is_name => first | k_is | rfl)
    (case a_check_kinds => first | k_is | rfl)
    (case l_check_kinds => first | k_is | rfl)
    (case cdcheck_kinds => first | k_is | rfl)
    (case k_check_kinds => first | k_is | rfl)
    (case a_check_rule => first | k_is | rfl)
    (case l_check_rule => first | k_is | rfl)
    (case cdcheck_rule => first | k_is | rfl)
    (case k_check_rule => first | k_is | rfl)
    (case a_Book_init => first | k_is | rfl)
    (case l_Book_init => first | k_is | rfl)
    (case cdBook_init => first | k_is | rfl)
    (case k_Book_init => first | k_is | rfl)
    (case i_Book_init => first | k_is | rfl)
    (case a__law_code => first | k_is | rfl)
    (case l__law_code => first | k_is | rfl)
    (case cd_law_code => first | k_is | rfl)
    (case k__law_code => first | k_is | rfl)
    (case a__law_pair => first | k_is | rfl)
    (case l__law_pair => first | k_is | rfl)
    (case cd_law_pair => first | k_is | rfl)
    (case k__law_pair => first | k_is | rfl)
    (case a__law_turned_to => first | k_is | rfl)
    (case l__law_turned_to => first | k_is | rfl)
    (case cd_law_turned_to => first | k_is | rfl)
    (case k__law_turned_to => first | k_is | rfl)
    (case a__law_all_behind => first | k_is | rfl)
    (case l__law_all_behind => first | k_is | rfl)
    (case cd_law_all_behind => first | k_is | rfl)
    (case k__law_all_behind => first | k_is | rfl)
    (case a__law_comes => first | k_is | rfl)
    (case l__law_comes => first | k_is | rfl)
    (case cd_law_comes => first | k_is | rfl)
    (case k__law_comes => first | k_is | rfl)
    (case a_two_of => first | k_is | rfl)
    (case l_two_of => first | k_is | rfl)
    (case cdtwo_of => first | k_is | rfl)
    (case k_two_of => first | k_is | rfl)
    (case a_moved => first | k_is | rfl)
    (case l_moved => first | k_is | rfl)
    (case cdmoved => first | k_is | rfl)
    (case k_moved => first | k_is | rfl)
    (case a_reached => first | k_is | rfl)
    (case l_reached => first | k_is | rfl)
    (case cdreached => first | k_is | rfl)
    (case k_reached => first | k_is | rfl)
    (case a_follows_from => first | k_is | rfl)
    (case l_follows_from => first | k_is | rfl)
    (case cdfollows_from => first | k_is | rfl)
    (case k_follows_from => first | k_is | rfl)
    (case a_places_of => first | k_is | rfl)
    (case l_places_of => first | k_is | rfl)
    (case cdplaces_of => first | k_is | rfl)
    (case k_places_of => first | k_is | rfl)
    (case a_moves_of => first | k_is | rfl)
    (case l_moves_of => first | k_is | rfl)
    (case cdmoves_of => first | k_is | rfl)
    (case k_moves_of => first | k_is | rfl)
    (case a_follows => first | k_is | rfl)
    (case l_follows => first | k_is | rfl)
    (case cdfollows => first | k_is | rfl)
    (case k_follows => first | k_is | rfl)
    (case a__law_herds => first | k_is | rfl)
    (case l__law_herds => first | k_is | rfl)
    (case cd_law_herds => first | k_is | rfl)
    (case k__law_herds => first | k_is | rfl)
    (case a__law_in_all => first | k_is | rfl)
    (case l__law_in_all => first | k_is | rfl)
    (case cd_law_in_all => first | k_is | rfl)
    (case k__law_in_all => first | k_is | rfl)
    (case a_Book_kinds => first | k_is | rfl)
    (case g_Book_kinds => first | k_is | rfl)
    (case t_Book_kinds => first | k_is | rfl)
    (case r_Book_kinds => first | k_is | rfl)
    (case l_Book_kinds => first | k_is | rfl)
    (case cdBook_kinds => first | k_is | rfl)
    (case k_Book_kinds => first | k_is | rfl)
    (case a_Book_without => first | k_is | rfl)
    (case l_Book_without => first | k_is | rfl)
    (case cdBook_without => first | k_is | rfl)
    (case k_Book_without => first | k_is | rfl)
    (case i_Book_without => first | k_is | rfl)
    (case a_Book_eq => first | k_is | rfl)
    (case l_Book_eq => first | k_is | rfl)
    (case cdBook_eq => first | k_is | rfl)
    (case k_Book_eq => first | k_is | rfl)
    (case i_Book_eq => first | k_is | rfl)
    (case a__law_right => first | k_is | rfl)
    (case l__law_right => first | k_is | rfl)
    (case cd_law_right => first | k_is | rfl)
    (case k__law_right => first | k_is | rfl)
    (case a_law => first | k_is | rfl)
    (case l_law => first | k_is | rfl)
    (case cdlaw => first | k_is | rfl)
    (case k_law => first | k_is | rfl)
    (case pg_Book => first | k_is | rfl)
    (case hd_Book => first | k_is | rfl)
    (case po_Book => first | k_is | rfl)
    (case sa_Book => first | k_is | rfl)
    (case mk_Book => first | k_is | rfl)
    (case kc_Book => first | k_is | rfl)
    (case na_Book_kept_kinds => first | k_is | rfl)
    (case na_Book_kept_rules => first | k_is | rfl)
    (case ia_Book => first | k_is | rfl)
    (case im_Book => first | k_is | rfl)
    (case sp_class => first | k_is | rfl)
    (case tk_class => first | k_is | rfl)
    (case e_CrowdError => first | k_is | rfl)
    (case l_err => first | k_is | rfl)
    (case cderr => first | k_is | rfl)
    (case k_err => first | k_is | rfl)
    (case ty_err => first | k_is | rfl)
    (case x_CrowdError => first | k_is | rfl)
    (case xs_CrowdError => first | k_is | rfl)
    (case xe_CrowdError => first | k_is | rfl)
    (case xt_CrowdError => first | k_is | rfl)
    (case xk_CrowdError => first | k_is | rfl)
    (case xv_CrowdError => first | k_is | rfl)
    (case x_InvalidName => first | k_is | rfl)
    (case xs_InvalidName => first | k_is | rfl)
    (case xe_InvalidName => first | k_is | rfl)
    (case xt_InvalidName => first | k_is | rfl)
    (case xk_InvalidName => first | k_is | rfl)
    (case xv_InvalidName => first | k_is | rfl)
    (case e_InvalidName => first | k_is | rfl)
    (case x_DoubleName => first | k_is | rfl)
    (case xs_DoubleName => first | k_is | rfl)
    (case xe_DoubleName => first | k_is | rfl)
    (case xt_DoubleName => first | k_is | rfl)
    (case xk_DoubleName => first | k_is | rfl)
    (case xv_DoubleName => first | k_is | rfl)
    (case e_DoubleName => first | k_is | rfl)
    (case x_InvalidRule => first | k_is | rfl)
    (case xs_InvalidRule => first | k_is | rfl)
    (case xe_InvalidRule => first | k_is | rfl)
    (case xt_InvalidRule => first | k_is | rfl)
    (case xk_InvalidRule => first | k_is | rfl)
    (case xv_InvalidRule => first | k_is | rfl)
    (case e_InvalidRule => first | k_is | rfl)
    (case x_DoubleRule => first | k_is | rfl)
    (case xs_DoubleRule => first | k_is | rfl)
    (case xe_DoubleRule => first | k_is | rfl)
    (case xt_DoubleRule => first | k_is | rfl)
    (case xk_DoubleRule => first | k_is | rfl)
    (case xv_DoubleRule => first | k_is | rfl)
    (case e_DoubleRule => first | k_is | rfl)

