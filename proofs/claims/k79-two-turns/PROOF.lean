import PyProof.Rows.All
import Wide.All
import OpenK.AllK
import Wide.FinOn
import HandS.ForMost
import HandS.TupAny
import HandS.Style
import HandS.Deep
import HandS.Conv
import HandS.IsInst
import HandS.SortInts
import HandS.SetFor
import HandS.More
import KE.OsSort
import HandS.SetKeys
import HandS.EndBits
import PySem.Challenge.RW_backandon_k79_whole_two_turns
set_option Elab.async false
set_option linter.all false
set_option maxRecDepth 100000
namespace VL
open PySem PySem.Spec PyProof.Rows L2

abbrev Da := PyData
def keyD : Key → Da
  | .inl i => .int i
  | .inr x => .str x
def kdK (kvs : List (Key × Da)) : List (Da × Da) := kvs.map fun p => (keyD p.1, p.2)
def kdT (kvs : List (List Key × Da)) : List (Da × Da) := kvs.map fun p => (.tuple (p.1.map keyD), p.2)

/-! ### data that stands in the frozen part F of the heap -/
mutual
inductive Dz (K : PySem.W.Frag) (F : Hp) : V → Da → Prop
  | non : Dz K F .non .none
  | bl (b : Bool) : Dz K F (.bl b) (.bool b)
  | int (i : Int) : Dz K F (.int i) (.int i)
  | str (x : Str) : Dz K F (.str x) (.str x)
  | lst {a : Addr} {xs : List V} {ds : List Da} : F a = some (.lst xs) → DzAll K F xs ds → Dz K F (.ref a) (.list ds)
  | tup {a : Addr} {xs : List V} {ds : List Da} : F a = some (.tup xs) → DzAll K F xs ds → Dz K F (.ref a) (.tuple ds)
  | dk {a : Addr} {o : Obj} {kvs : List (Key × V)} {ds : List (Key × Da)} : F a = some (.frz o (.dK kvs)) → DzK K F kvs ds → Dz K F (.ref a) (.dict (kdK ds))
  | dt {a : Addr} {o : Obj} {kvs : List (List Key × V)} {ds : List (List Key × Da)} : F a = some (.frz o (.dT kvs)) → DzT K F kvs ds → Dz K F (.ref a) (.dict (kdT ds))
inductive DzAll (K : PySem.W.Frag) (F : Hp) : List V → List Da → Prop
  | nil : DzAll K F [] []
  | cons {v : V} {vs : List V} {d : Da} {ds : List Da} : Dz K F v d → DzAll K F vs ds → DzAll K F (v :: vs) (d :: ds)
inductive DzK (K : PySem.W.Frag) (F : Hp) : List (Key × V) → List (Key × Da) → Prop
  | nil : DzK K F [] []
  | cons {k : Key} {v : V} {vs : List (Key × V)} {d : Da} {ds : List (Key × Da)} : Dz K F v d → DzK K F vs ds → DzK K F ((k, v) :: vs) ((k, d) :: ds)
inductive DzT (K : PySem.W.Frag) (F : Hp) : List (List Key × V) → List (List Key × Da) → Prop
  | nil : DzT K F [] []
  | cons {k : List Key} {v : V} {vs : List (List Key × V)} {d : Da} {ds : List (List Key × Da)} : Dz K F v d → DzT K F vs ds → DzT K F ((k, v) :: vs) ((k, d) :: ds)
end
mutual
theorem Dz.mono {K : PySem.W.Frag} {F F' : Hp} (s : Same F F') : ∀ {v : V} {d : Da}, Dz K F v d → Dz K F' v d
  | _, _, .non => .non
  | _, _, .bl b => .bl b
  | _, _, .int i => .int i
  | _, _, .str x => .str x
  | _, _, .lst h t => .lst (s _ _ h) (DzAll.mono s t)
  | _, _, .tup h t => .tup (s _ _ h) (DzAll.mono s t)
  | _, _, .dk h t => .dk (s _ _ h) (DzK.mono s t)
  | _, _, .dt h t => .dt (s _ _ h) (DzT.mono s t)
theorem DzAll.mono {K : PySem.W.Frag} {F F' : Hp} (s : Same F F') : ∀ {v : List V} {d : List Da}, DzAll K F v d → DzAll K F' v d
  | _, _, .nil => .nil
  | _, _, .cons h t => .cons (Dz.mono s h) (DzAll.mono s t)
theorem DzK.mono {K : PySem.W.Frag} {F F' : Hp} (s : Same F F') : ∀ {v : List (Key × V)} {d : List (Key × Da)}, DzK K F v d → DzK K F' v d
  | _, _, .nil => .nil
  | _, _, .cons h t => .cons (Dz.mono s h) (DzK.mono s t)
theorem DzT.mono {K : PySem.W.Frag} {F F' : Hp} (s : Same F F') : ∀ {v : List (List Key × V)} {d : List (List Key × Da)}, DzT K F v d → DzT K F' v d
  | _, _, .nil => .nil
  | _, _, .cons h t => .cons (Dz.mono s h) (DzT.mono s t)
end
section
variable {K : PySem.W.Frag} {F : Hp}
theorem DzAll.length : ∀ {vs : List V} {ds : List Da}, DzAll K F vs ds → vs.length = ds.length
  | _, _, .nil => rfl
  | _, _, .cons _ t => by simp [DzAll.length t]
theorem DzAll.get : ∀ {vs : List V} {ds : List Da} {i : Nat} {d : Da}, DzAll K F vs ds → ds[i]? = some d → ∃ v, vs[i]? = some v ∧ Dz K F v d
  | _, _, _, _, .nil, e => by simp at e
  | _, _, 0, _, .cons h _, e => by simp at e; subst e; exact ⟨_, rfl, h⟩
  | _, _, i + 1, d, .cons _ t, e => by
    obtain ⟨u, h1, h2⟩ := DzAll.get (i := i) (d := d) t (by simpa using e)
    exact ⟨u, by simpa using h1, h2⟩
theorem DzAll.get' : ∀ {vs : List V} {ds : List Da} {i : Nat} {v : V}, DzAll K F vs ds → vs[i]? = some v → ∃ d, ds[i]? = some d ∧ Dz K F v d
  | _, _, _, _, .nil, e => by simp at e
  | _, _, 0, _, .cons h _, e => by simp at e; subst e; exact ⟨_, rfl, h⟩
  | _, _, i + 1, d, .cons _ t, e => by
    obtain ⟨u, h1, h2⟩ := DzAll.get' (i := i) (v := d) t (by simpa using e)
    exact ⟨u, by simpa using h1, h2⟩
theorem DzAll.append : ∀ {vs ws : List V} {ds es : List Da}, DzAll K F vs ds → DzAll K F ws es → DzAll K F (vs ++ ws) (ds ++ es)
  | _, _, _, _, .nil, h => h
  | _, _, _, _, .cons a t, h => .cons a (DzAll.append t h)
theorem DzAll.one {v : V} {d : Da} (h : Dz K F v d) : DzAll K F [v] [d] := .cons h .nil
theorem DzAll.take : ∀ {vs : List V} {ds : List Da} (n : Nat), DzAll K F vs ds → DzAll K F (vs.take n) (ds.take n)
  | _, _, 0, _ => by simpa using DzAll.nil
  | _, _, n + 1, .nil => by simpa using DzAll.nil
  | _, _, n + 1, .cons a t => by simpa using DzAll.cons a (DzAll.take n t)
theorem DzAll.drop : ∀ {vs : List V} {ds : List Da} (n : Nat), DzAll K F vs ds → DzAll K F (vs.drop n) (ds.drop n)
  | _, _, 0, h => by simpa using h
  | _, _, n + 1, .nil => by simpa using DzAll.nil
  | _, _, n + 1, .cons a t => by simpa using DzAll.drop n t
theorem DzAll.set {x : V} {y : Da} (h : Dz K F x y) : ∀ {vs : List V} {ds : List Da} (i : Nat), DzAll K F vs ds → DzAll K F (vs.set i x) (ds.set i y)
  | _, _, _, .nil => by simpa using DzAll.nil
  | _, _, 0, .cons a t => by simpa using DzAll.cons h t
  | _, _, i + 1, .cons a t => by simpa using DzAll.cons a (DzAll.set h i t)
theorem DzAll.eraseIdx : ∀ {vs : List V} {ds : List Da} (i : Nat), DzAll K F vs ds → DzAll K F (vs.eraseIdx i) (ds.eraseIdx i)
  | _, _, _, .nil => by simpa using DzAll.nil
  | _, _, 0, .cons a t => by simpa using t
  | _, _, i + 1, .cons a t => by simpa using DzAll.cons a (DzAll.eraseIdx i t)
theorem DzAll.dropLast {vs : List V} {ds : List Da} (h : DzAll K F vs ds) : DzAll K F vs.dropLast ds.dropLast := by
  rw [List.dropLast_eq_take, List.dropLast_eq_take, h.length]
  exact h.take _
theorem DzAll.reverse : ∀ {vs : List V} {ds : List Da}, DzAll K F vs ds → DzAll K F vs.reverse ds.reverse
  | _, _, .nil => by simpa using DzAll.nil
  | _, _, .cons a t => by simpa using (DzAll.reverse t).append (.one a)
theorem DzAll.flat {vs : List V} {ds : List Da} (h : DzAll K F vs ds) : ∀ n : Nat, DzAll K F (List.replicate n vs).flatten (List.replicate n ds).flatten
  | 0 => by simpa using DzAll.nil
  | n + 1 => by simpa [List.replicate_succ] using h.append (DzAll.flat h n)
theorem DzAll.ints : ∀ {vs : List V} {ns : List Int}, DzAll K F vs (ns.map PyData.int) → vs = ns.map V.int
  | _, [], .nil => rfl
  | _, _ :: _, .cons (.int _) t => by rw [DzAll.ints t]; rfl
theorem DzAll.of_ints : ∀ {ns : List Int}, DzAll K F (ns.map V.int) (ns.map PyData.int)
  | [] => .nil
  | _ :: _ => .cons (.int _) DzAll.of_ints
theorem DzAll.bools : ∀ {vs : List V} {ns : List Bool}, DzAll K F vs (ns.map PyData.bool) → vs = ns.map V.bl
  | _, [], .nil => rfl
  | _, _ :: _, .cons (.bl _) t => by rw [DzAll.bools t]; rfl
theorem DzAll.strs : ∀ {vs : List V} {ns : List Str}, DzAll K F vs (ns.map PyData.str) → vs = ns.map V.str
  | _, [], .nil => rfl
  | _, _ :: _, .cons (.str _) t => by rw [DzAll.strs t]; rfl
end

/-! ### slots and outcomes -/
inductive Sl where
  | no
  | val (d : Da)
  | own (xs : List Da)
  | io (xs : List Da)
  | odk (kvs : List (Key × Da))
  | odt (kvs : List (List Key × Da))
  | scr (ns : List Int)
  | pk (i : Nat)
abbrev VE := List Sl
def isOw : Sl → Bool
  | .own _ | .io _ | .odk _ | .odt _ => true
  | _ => false
inductive Out (α : Type) where
  | ok (a : α) (e : VE)
  | exc (x : Da)
  | no
def Out.bind {α β : Type} (o : Out α) (f : α → VE → Out β) : Out β := match o with
  | .ok a e => f a e
  | .exc x => .exc x
  | .no => .no
def Out.P {α : Type} (o : Out α) (p : α → VE → Prop) (x : Da → Prop) : Prop := match o with
  | .ok a e => p a e
  | .exc d => x d
  | .no => False
theorem P_bind {α β : Type} {o : Out α} {f : α → VE → Out β} {p : β → VE → Prop} {x : Da → Prop} : (o.bind f).P p x = o.P (fun a e => (f a e).P p x) x := by
  cases o <;> rfl
theorem P_mono {α : Type} {o : Out α} {p p' : α → VE → Prop} {x x' : Da → Prop} (h : o.P p x) (hp : ∀ a e, o = .ok a e → p a e → p' a e) (hx : ∀ d, x d → x' d) : o.P p' x' := by
  cases o with
  | ok a e => exact hp _ _ rfl h
  | exc d => exact hx _ h
  | no => exact h

structure Cc where
  H0 : Hp
  F0 : Hp
  io : Option Addr
  xk : Da → Hp → Hp → Prop
def Cc.nox (C : Cc) : Cc := { C with xk := fun _ _ _ => False }

section
variable (K : PySem.W.Frag) (C : Cc) (F H : Hp)
def SlOk (o : Option (Option V)) : Sl → Prop
  | .no => True
  | .val d => ∃ v, o = some (some v) ∧ Dz K F v d
  | .own xs => ∃ a vs, o = some (some (.ref a)) ∧ H a = some (.lst vs) ∧ F a = none ∧ C.H0 a = none ∧ DzAll K F vs xs
  | .io xs => ∃ a vs, o = some (some (.ref a)) ∧ C.io = some a ∧ H a = some (.lst vs) ∧ F a = none ∧ DzAll K F vs xs
  | .odk kvs => ∃ a ks, o = some (some (.ref a)) ∧ H a = some (.dK ks) ∧ F a = none ∧ C.H0 a = none ∧ DzK K F ks kvs
  | .odt kvs => ∃ a ks, o = some (some (.ref a)) ∧ H a = some (.dT ks) ∧ F a = none ∧ C.H0 a = none ∧ DzT K F ks kvs
  | .scr ns => ∃ a, o = some (some (.ref a)) ∧ SqL K F a (ns.map V.int)
  | .pk _ => False
/-- no owned slot stands at a -/
def Apart (σ : L2.St) (env : VE) (a : Addr) : Prop := ∀ (i : Nat) (s : Sl), env[i]? = some s → isOw s = true → σ[i]? ≠ some (some (.ref a))
structure Sta (σ : L2.St) (env : VE) : Prop where
  len : σ.length = env.length
  sub : Same F H
  mono : Same C.F0 F
  frame : ∀ a o, C.H0 a = some o → C.io ≠ some a → H a = some o
  fnew : ∀ a, F a ≠ none → C.F0 a ≠ none ∨ C.H0 a = none
  iok : ∀ a, C.io = some a → H a ≠ none ∧ C.H0 a ≠ none
  slot : ∀ (i : Nat) (s : Sl), env[i]? = some s → SlOk K C F H (σ[i]?) s
  dist : ∀ (i j : Nat) (a : Addr) (s t : Sl), i ≠ j → env[i]? = some s → isOw s = true → env[j]? = some t → isOw t = true → σ[i]? = some (some (.ref a)) → σ[j]? = some (some (.ref a)) → False
def ResOk (σ : L2.St) (env : VE) (v : V) : Sl → Prop
  | .val d => Dz K F v d
  | .own xs => ∃ a vs, v = .ref a ∧ H a = some (.lst vs) ∧ F a = none ∧ C.H0 a = none ∧ DzAll K F vs xs ∧ Apart σ env a
  | .odk kvs => ∃ a ks, v = .ref a ∧ H a = some (.dK ks) ∧ F a = none ∧ C.H0 a = none ∧ DzK K F ks kvs ∧ Apart σ env a
  | .odt kvs => ∃ a ks, v = .ref a ∧ H a = some (.dT ks) ∧ F a = none ∧ C.H0 a = none ∧ DzT K F ks kvs ∧ Apart σ env a
  | .scr ns => ∃ a, v = .ref a ∧ SqL K F a (ns.map V.int)
  | .pk i => σ[i]? = some (some v)
  | _ => False
/-- weakly readable data: frozen, or an owned list or dict as it stands now -/
def Dw (v : V) (d : Da) : Prop :=
  Dz K F v d ∨ (∃ a vs xs, v = .ref a ∧ d = .list xs ∧ H a = some (.lst vs) ∧ DzAll K F vs xs) ∨
  (∃ a ks kvs, v = .ref a ∧ d = .dict (kdK kvs) ∧ H a = some (.dK ks) ∧ DzK K F ks kvs) ∨ (∃ a ks kvs, v = .ref a ∧ d = .dict (kdT kvs) ∧ H a = some (.dT ks) ∧ DzT K F ks kvs)
end
def Sl.fz : Sl → Sl
  | .own xs => .val (.list xs)
  | s => s
def lookAt : Option Sl → Option Da
  | some (.val d) => some d
  | some (.own xs) => some (.list xs)
  | some (.io xs) => some (.list xs)
  | some (.odk kvs) => some (.dict (kdK kvs))
  | some (.odt kvs) => some (.dict (kdT kvs))
  | _ => none
def look (r : Sl) (env : VE) : Option Da := match r with
  | .val d => some d
  | .pk i => lookAt env[i]?
  | _ => none

section
variable {K : PySem.W.Frag} {C : Cc} {F H F' H' : Hp} {σ : L2.St} {env : VE}
/-- an owned slot's object is there, is not frozen -/
theorem Sta.at (S : Sta K C F H σ env) {i : Nat} {s : Sl} {a : Addr} (h : env[i]? = some s) (o : isOw s = true) (e : σ[i]? = some (some (.ref a))) : H a ≠ none ∧ F a = none ∧ (C.H0 a = none ∨ C.io = some a) := by
  have q := S.slot i s h
  cases s with
  | own xs => obtain ⟨b, vs, e2, h1, h2, h3, _⟩ := q; rw [e] at e2; cases e2; exact ⟨by rw [h1]; simp, h2, .inl h3⟩
  | io xs => obtain ⟨b, vs, e2, h0, h1, h2, _⟩ := q; rw [e] at e2; cases e2; exact ⟨by rw [h1]; simp, h2, .inr h0⟩
  | odk kvs => obtain ⟨b, ks, e2, h1, h2, h3, _⟩ := q; rw [e] at e2; cases e2; exact ⟨by rw [h1]; simp, h2, .inl h3⟩
  | odt kvs => obtain ⟨b, ks, e2, h1, h2, h3, _⟩ := q; rw [e] at e2; cases e2; exact ⟨by rw [h1]; simp, h2, .inl h3⟩
  | _ => cases o
theorem Sta.new (S : Sta K C F H σ env) {p : Addr} (n : H p = none) : F p = none ∧ C.H0 p = none ∧ Apart σ env p := by
  refine ⟨S.sub.free n, ?_, fun i s h o e => (S.at h o e).1 n⟩
  cases q : C.H0 p with
  | none => rfl
  | some o =>
    by_cases hi : C.io = some p
    · exact absurd n (S.iok p hi).1
    · rw [S.frame p o q hi] at n; cases n
/-- the heap grows; owned slots stay -/
theorem Sta.grow (S : Sta K C F H σ env) (sF : Same F F') (sub : Same F' H') (hH : ∀ a o, H a = some o → F' a = none → H' a = some o)
    (hF : ∀ a, F' a ≠ none → F a ≠ none ∨ (C.H0 a = none ∧ Apart σ env a)) : Sta K C F' H' σ env := by
  have keep : ∀ {i : Nat} {s : Sl} {a : Addr}, env[i]? = some s → isOw s = true → σ[i]? = some (some (V.ref a)) → F' a = none := fun {i s a} h o e => by
    cases q : F' a with
    | none => rfl
    | some u =>
      rcases hF a (by rw [q]; simp) with z | z
      · exact absurd (S.at h o e).2.1 z
      · exact absurd e (z.2 i s h o)
  refine ⟨S.len, sub, S.mono.trans sF, fun a o h io => ?_, fun a h => ?_, fun a h => ⟨fun n => ?_, (S.iok a h).2⟩, fun i s h => ?_, S.dist⟩
  · have h1 := S.frame a o h io
    cases q : F' a with
    | none => exact hH a o h1 q
    | some u =>
      rcases hF a (by rw [q]; simp) with z | z
      · cases q2 : F a with
        | none => exact absurd q2 z
        | some u2 =>
          have e1 := S.sub a u2 q2
          rw [h1] at e1; cases e1
          exact sub a o (sF a o q2)
      · rw [z.1] at h; cases h
  · rcases hF a h with z | z
    · exact S.fnew a z
    · exact .inr z.1
  · cases q : F' a with
    | none =>
      cases q2 : H a with
      | none => exact (S.iok a h).1 q2
      | some o => rw [hH a o q2 q] at n; cases n
    | some u => rw [sub a u q] at n; cases n
  · have q := S.slot i s h
    cases s with
    | no => trivial
    | val d => obtain ⟨v, e, z⟩ := q; exact ⟨v, e, z.mono sF⟩
    | own xs => obtain ⟨a, vs, e, h1, h2, h3, h4⟩ := q; exact ⟨a, vs, e, hH a _ h1 (keep h rfl e), keep h rfl e, h3, h4.mono sF⟩
    | io xs => obtain ⟨a, vs, e, h0, h1, h2, h4⟩ := q; exact ⟨a, vs, e, h0, hH a _ h1 (keep h rfl e), keep h rfl e, h4.mono sF⟩
    | odk kvs => obtain ⟨a, vs, e, h1, h2, h3, h4⟩ := q; exact ⟨a, vs, e, hH a _ h1 (keep h rfl e), keep h rfl e, h3, h4.mono sF⟩
    | odt kvs => obtain ⟨a, vs, e, h1, h2, h3, h4⟩ := q; exact ⟨a, vs, e, hH a _ h1 (keep h rfl e), keep h rfl e, h3, h4.mono sF⟩
    | scr ns => obtain ⟨a, e, z⟩ := q; exact ⟨a, e, sF.seq z⟩
    | pk j => exact q
theorem same_upd {H : Hp} {p : Addr} {o : HO} (h : H p = none) : Same H (upd H p o) := fun b x e => by
  rw [upd_ne (ne_of_none e h)]
  exact e
theorem upd_none {H : Hp} {a p : Addr} {o : HO} (h : upd H p o a = none) : a ≠ p ∧ H a = none := by
  by_cases e : a = p
  · rw [e, upd_same] at h; cases h
  · rw [upd_ne e] at h; exact ⟨e, h⟩
theorem upd_nn {H : Hp} {a p : Addr} {o : HO} (h : upd H p o a ≠ none) : a = p ∨ H a ≠ none := by
  by_cases e : a = p
  · exact .inl e
  · rw [upd_ne e] at h; exact .inr h
theorem same_upd2 {F H : Hp} {p : Addr} {o : HO} (s : Same F H) : Same (upd F p o) (upd H p o) := fun b x e => by
  by_cases hb : b = p
  · subst hb; rw [upd_same] at e ⊢; exact e
  · rw [upd_ne hb] at e ⊢; exact s b x e
/-- a new object of one's own -/
theorem Sta.alloc (S : Sta K C F H σ env) {p : Addr} {o : HO} (n : H p = none) : Sta K C F (upd H p o) σ env := by
  obtain ⟨h1, h2, h3⟩ := S.new n
  exact S.grow (Same.refl F) (S.sub.trans (same_upd n)) (fun a u h _ => same_upd n a u h) fun a h => .inl h
/-- a new object, frozen at once -/
theorem Sta.allocF (S : Sta K C F H σ env) {p : Addr} {o : HO} (n : H p = none) : Sta K C (upd F p o) (upd H p o) σ env ∧ Same F (upd F p o) := by
  obtain ⟨h1, h2, h3⟩ := S.new n
  refine ⟨S.grow (same_upd h1) (same_upd2 S.sub) (fun a u h _ => same_upd n a u h) fun a h => ?_, same_upd h1⟩
  rcases upd_nn h with z | z
  · subst z; exact .inr ⟨h2, h3⟩
  · exact .inl z
/-- a list of one's own is frozen -/
theorem Sta.freeze (S : Sta K C F H σ env) {a : Addr} {o : HO} (h : H a = some o) (hf : F a = none) (h0 : C.H0 a = none) (ap : Apart σ env a) : Sta K C (upd F a o) H σ env ∧ Same F (upd F a o) := by
  refine ⟨S.grow (same_upd hf) (fun b u e => ?_) (fun b u e _ => e) fun b e => ?_, same_upd hf⟩
  · by_cases hb : b = a
    · subst hb; rw [upd_same] at e; cases e; exact h
    · rw [upd_ne hb] at e; exact S.sub b u e
  · rcases upd_nn e with z | z
    · subst z; exact .inr ⟨h0, ap⟩
    · exact .inl z
/-- .. a thing of one's own is locked -/
theorem Sta.lock (S : Sta K C F H σ env) {a : Addr} {o u : HO} (h : H a = some o) (hf : F a = none) (h0 : C.H0 a = none) (ap : Apart σ env a) : Sta K C (upd F a u) (upd H a u) σ env ∧ Same F (upd F a u) := by
  refine ⟨S.grow (same_upd hf) (same_upd2 S.sub) (fun b v e n => ?_) fun b e => ?_, same_upd hf⟩
  · obtain ⟨hb, _⟩ := upd_none n
    rw [upd_ne hb]; exact e
  · rcases upd_nn e with z | z
    · subst z; exact .inr ⟨h0, ap⟩
    · exact .inl z
theorem get_set {env : VE} {i j : Nat} {s t : Sl} (h : (env.set i s)[j]? = some t) : (j = i ∧ t = s) ∨ (j ≠ i ∧ env[j]? = some t) := by
  by_cases e : j = i
  · subst e
    rw [List.getElem?_set_self'] at h
    cases q : env[j]? with
    | none => rw [q] at h; cases h
    | some u => rw [q] at h; exact .inl ⟨rfl, (Option.some.inj h).symm⟩
  · rw [List.getElem?_set_ne (Ne.symm e)] at h
    exact .inr ⟨e, h⟩
/-- a slot's word is exchanged, its value stays -/
theorem Sta.reslot (S : Sta K C F H σ env) {i : Nat} {s : Sl} (h : SlOk K C F H (σ[i]?) s)
    (hd : isOw s = true → ∀ a, σ[i]? = some (some (.ref a)) → ∀ (j : Nat) (t : Sl), j ≠ i → env[j]? = some t → isOw t = true → σ[j]? ≠ some (some (.ref a))) : Sta K C F H σ (env.set i s) := by
  refine ⟨by rw [List.length_set]; exact S.len, S.sub, S.mono, S.frame, S.fnew, S.iok, fun j t e => ?_, fun j k a t u ne e1 o1 e2 o2 g1 g2 => ?_⟩
  · rcases get_set e with ⟨rfl, rfl⟩ | ⟨_, q⟩
    · exact h
    · exact S.slot j t q
  · rcases get_set e1 with ⟨z1, z2⟩ | ⟨n1, q1⟩
    · rcases get_set e2 with ⟨z3, z4⟩ | ⟨n2, q2⟩
      · exact ne (z1.trans z3.symm)
      · subst z1; subst z2; exact hd o1 a g1 k u n2 q2 o2 g2
    · rcases get_set e2 with ⟨z3, z4⟩ | ⟨n2, q2⟩
      · subst z3; subst z4; exact hd o2 a g2 j t n1 q1 o1 g1
      · exact S.dist j k a t u ne q1 o1 q2 o2 g1 g2
theorem Sta.drop (S : Sta K C F H σ env) (i : Nat) : Sta K C F H σ (env.set i .no) := S.reslot trivial fun h => nomatch h
/-- a name is stored -/
theorem Sta.set (S : Sta K C F H σ env) {i : Nat} {v : V} {r : Sl} (hi : i < σ.length) (R : ResOk K C F H σ env v r) (np : ∀ j, r ≠ .pk j) : Sta K C F H (σ.set i (some v)) (env.set i r) := by
  have ei : (σ.set i (some v))[i]? = some (some v) := List.getElem?_set_self hi
  have ej : ∀ j, j ≠ i → (σ.set i (some v))[j]? = σ[j]? := fun j h => List.getElem?_set_ne (Ne.symm h)
  have ap : ∀ a, isOw r = true → v = .ref a → Apart σ env a := fun a o e => by
    cases r with
    | own xs => obtain ⟨b, vs, e1, _, _, _, _, z⟩ := R; rw [e] at e1; cases e1; exact z
    | odk kvs => obtain ⟨b, vs, e1, _, _, _, _, z⟩ := R; rw [e] at e1; cases e1; exact z
    | odt kvs => obtain ⟨b, vs, e1, _, _, _, _, z⟩ := R; rw [e] at e1; cases e1; exact z
    | io xs => exact R.elim
    | _ => cases o
  refine ⟨by rw [List.length_set, List.length_set]; exact S.len, S.sub, S.mono, S.frame, S.fnew, S.iok, fun j t e => ?_, fun j k a t u ne e1 o1 e2 o2 g1 g2 => ?_⟩
  · rcases get_set e with ⟨rfl, rfl⟩ | ⟨n, q⟩
    · rw [ei]
      cases t with
      | no => trivial
      | val d => exact ⟨v, rfl, R⟩
      | own xs => obtain ⟨b, vs, rfl, h1, h2, h3, h4, _⟩ := R; exact ⟨b, vs, rfl, h1, h2, h3, h4⟩
      | odk kvs => obtain ⟨b, vs, rfl, h1, h2, h3, h4, _⟩ := R; exact ⟨b, vs, rfl, h1, h2, h3, h4⟩
      | odt kvs => obtain ⟨b, vs, rfl, h1, h2, h3, h4, _⟩ := R; exact ⟨b, vs, rfl, h1, h2, h3, h4⟩
      | io xs => exact R.elim
      | scr ns => obtain ⟨a, rfl, z⟩ := R; exact ⟨a, rfl, z⟩
      | pk j => exact absurd rfl (np j)
    · rw [ej j n]; exact S.slot j t q
  · rcases get_set e1 with ⟨z1, z2⟩ | ⟨n1, q1⟩
    · rcases get_set e2 with ⟨z3, z4⟩ | ⟨n2, q2⟩
      · exact ne (z1.trans z3.symm)
      · subst z1; subst z2
        rw [ei] at g1; rw [ej k n2] at g2
        exact ap a o1 (Option.some.inj (Option.some.inj g1)) k u q2 o2 g2
    · rcases get_set e2 with ⟨z3, z4⟩ | ⟨n2, q2⟩
      · subst z3; subst z4
        rw [ei] at g2; rw [ej j n1] at g1
        exact ap a o2 (Option.some.inj (Option.some.inj g2)) j t q1 o1 g1
      · rw [ej j n1] at g1; rw [ej k n2] at g2
        exact S.dist j k a t u ne q1 o1 q2 o2 g1 g2
/-- an owned slot's object is written -/
theorem Sta.write (S : Sta K C F H σ env) {i : Nat} {s s' : Sl} {a : Addr} {o : HO} (h : env[i]? = some s) (ow : isOw s = true) (e : σ[i]? = some (some (.ref a))) (h' : SlOk K C F (upd H a o) (some (some (.ref a))) s') :
    Sta K C F (upd H a o) σ (env.set i s') := by
  obtain ⟨a1, a2, a3⟩ := S.at h ow e
  have nF : ∀ b u, F b = some u → b ≠ a := fun b u q z => by rw [z, a2] at q; cases q
  refine ⟨by rw [List.length_set]; exact S.len, fun b u q => ?_, S.mono, fun b u q io => ?_, S.fnew, fun b q => ⟨fun n => ?_, (S.iok b q).2⟩, fun j t q => ?_, fun j k b t u ne e1 o1 e2 o2 g1 g2 => ?_⟩
  · rw [upd_ne (nF b u q)]; exact S.sub b u q
  · have : b ≠ a := fun z => by
      subst z
      rcases a3 with z | z
      · rw [z] at q; cases q
      · exact io z
    rw [upd_ne this]; exact S.frame b u q io
  · exact (S.iok b q).1 (upd_none n).2
  · rcases get_set q with ⟨rfl, rfl⟩ | ⟨n, q⟩
    · rw [e]; exact h'
    · have w := S.slot j t q
      have nb : ∀ b, isOw t = true → σ[j]? = some (some (.ref b)) → b ≠ a := fun b ot g z => by
        subst z; exact S.dist j i b t s n q ot h ow g e
      cases t with
      | no => trivial
      | val d => exact w
      | own xs => obtain ⟨b, vs, g, h1, h2⟩ := w; exact ⟨b, vs, g, by rw [upd_ne (nb b rfl g)]; exact h1, h2⟩
      | io xs => obtain ⟨b, vs, g, h0, h1, h2⟩ := w; exact ⟨b, vs, g, h0, by rw [upd_ne (nb b rfl g)]; exact h1, h2⟩
      | odk kvs => obtain ⟨b, vs, g, h1, h2⟩ := w; exact ⟨b, vs, g, by rw [upd_ne (nb b rfl g)]; exact h1, h2⟩
      | odt kvs => obtain ⟨b, vs, g, h1, h2⟩ := w; exact ⟨b, vs, g, by rw [upd_ne (nb b rfl g)]; exact h1, h2⟩
      | scr ns => exact w
      | pk j => exact w
  · have back : ∀ {j : Nat} {t : Sl}, (env.set i s')[j]? = some t → isOw t = true → ∃ t', env[j]? = some t' ∧ isOw t' = true := fun {j t} q ot => by
      rcases get_set q with ⟨rfl, rfl⟩ | ⟨n, q⟩
      · exact ⟨s, h, ow⟩
      · exact ⟨t, q, ot⟩
    obtain ⟨t', q1, o1'⟩ := back e1 o1
    obtain ⟨u', q2, o2'⟩ := back e2 o2
    exact S.dist j k b t' u' ne q1 o1' q2 o2' g1 g2
theorem Sta.fz (S : Sta K C F H σ env) {v : V} {r : Sl} (R : ResOk K C F H σ env v r) : ∃ F', Same F F' ∧ Sta K C F' H σ env ∧ ResOk K C F' H σ env v r.fz := by
  cases r with
  | own xs =>
    obtain ⟨a, vs, rfl, h1, h2, h3, h4, h5⟩ := R
    obtain ⟨S', s⟩ := S.freeze h1 h2 h3 h5
    exact ⟨_, s, S', .lst upd_same (h4.mono s)⟩
  | _ => exact ⟨F, Same.refl F, S, R⟩
/-- a result that is not owned persists -/
theorem ResOk.keep {v : V} {r : Sl} (R : ResOk K C F H σ env v r) (ro : isOw r = false) (s : Same F F') {env' : VE} : ResOk K C F' H' σ env' v r := by
  cases r with
  | val d => exact Dz.mono s R
  | scr ns => obtain ⟨a, e, z⟩ := R; exact ⟨a, e, s.seq z⟩
  | pk i => exact R
  | no => exact R.elim
  | _ => cases ro
theorem Sta.look (S : Sta K C F H σ env) {v : V} {r : Sl} {d : Da} (R : ResOk K C F H σ env v r) (h : VL.look r env = some d) : Dw K F H v d := by
  cases r with
  | val x => cases h; exact .inl R
  | pk i =>
    have R : σ[i]? = some (some v) := R
    have h : lookAt env[i]? = some d := h
    cases q : env[i]? with
    | none => rw [q] at h; cases h
    | some s =>
      have w := S.slot i s q
      rw [q] at h
      cases s with
      | val x => cases h; obtain ⟨v', e, z⟩ := w; rw [R] at e; cases e; exact .inl z
      | own xs => cases h; obtain ⟨a, vs, e, h1, _, _, z⟩ := w; rw [R] at e; cases e; exact .inr (.inl ⟨a, vs, xs, rfl, rfl, h1, z⟩)
      | io xs => cases h; obtain ⟨a, vs, e, _, h1, _, z⟩ := w; rw [R] at e; cases e; exact .inr (.inl ⟨a, vs, xs, rfl, rfl, h1, z⟩)
      | odk kvs => cases h; obtain ⟨a, vs, e, h1, _, _, z⟩ := w; rw [R] at e; cases e; exact .inr (.inr (.inl ⟨a, vs, kvs, rfl, rfl, h1, z⟩))
      | odt kvs => cases h; obtain ⟨a, vs, e, h1, _, _, z⟩ := w; rw [R] at e; cases e; exact .inr (.inr (.inr ⟨a, vs, kvs, rfl, rfl, h1, z⟩))
      | _ => cases h
  | _ => cases h
theorem Dw.int {v : V} {i : Int} (h : Dw K F H v (.int i)) : v = .int i := by
  rcases h with h | ⟨_, _, _, _, h, _⟩ | ⟨_, _, _, _, h, _⟩ | ⟨_, _, _, _, h, _⟩
  · cases h; rfl
  all_goals cases h
theorem Dw.str {v : V} {i : Str} (h : Dw K F H v (.str i)) : v = .str i := by
  rcases h with h | ⟨_, _, _, _, h, _⟩ | ⟨_, _, _, _, h, _⟩ | ⟨_, _, _, _, h, _⟩
  · cases h; rfl
  all_goals cases h
theorem Dw.bl {v : V} {i : Bool} (h : Dw K F H v (.bool i)) : v = .bl i := by
  rcases h with h | ⟨_, _, _, _, h, _⟩ | ⟨_, _, _, _, h, _⟩ | ⟨_, _, _, _, h, _⟩
  · cases h; rfl
  all_goals cases h
theorem Dw.non {v : V} (h : Dw K F H v .none) : v = .non := by
  rcases h with h | ⟨_, _, _, _, h, _⟩ | ⟨_, _, _, _, h, _⟩ | ⟨_, _, _, _, h, _⟩
  · cases h; rfl
  all_goals cases h
theorem Dw.lst {v : V} {xs : List Da} (s : Same F H) (h : Dw K F H v (.list xs)) : ∃ a vs, v = .ref a ∧ H a = some (.lst vs) ∧ DzAll K F vs xs := by
  rcases h with h | ⟨a, vs, ys, e, h, h1, h2⟩ | ⟨_, _, _, _, h, _⟩ | ⟨_, _, _, _, h, _⟩
  · cases h with
    | lst e t => exact ⟨_, _, rfl, s _ _ e, t⟩
  · cases h; exact ⟨a, vs, e, h1, h2⟩
  all_goals cases h
theorem Dw.tup {v : V} {xs : List Da} (h : Dw K F H v (.tuple xs)) : ∃ a vs, v = .ref a ∧ F a = some (.tup vs) ∧ DzAll K F vs xs := by
  rcases h with h | ⟨_, _, _, _, h, _⟩ | ⟨_, _, _, _, h, _⟩ | ⟨_, _, _, _, h, _⟩
  · cases h with
    | tup e t => exact ⟨_, _, rfl, e, t⟩
  all_goals cases h
end
end VL
namespace VL
open PySem PySem.Spec PyProof.Rows L2

/-! ### judgements -/
structure Fin (C : Cc) (F H : Hp) : Prop where
  sub : Same F H
  mono : Same C.F0 F
  frame : ∀ a o, C.H0 a = some o → C.io ≠ some a → H a = some o
  fnew : ∀ a, F a ≠ none → C.F0 a ≠ none ∨ C.H0 a = none
def XE (C : Cc) (F : Hp) (x : Da) : Prop := ∀ F' H', Same F F' → Fin C F' H' → C.xk x F' H'
theorem XE.mono {C : Cc} {F F' : Hp} {x : Da} (h : XE C F x) (s : Same F F') : XE C F' x := fun F2 H2 s2 f => h F2 H2 (s.trans s2) f
abbrev ME := VE → Out Sl
abbrev MT := VE → Out Bool
abbrev MA := VE → Out (List Sl)
section
variable (K : PySem.W.Frag) (C : Cc)
def tM (m : ME) : TE := fun σ H Q => ∃ F env, Sta K C F H σ env ∧ (m env).P (fun r e => ∀ v F' H', Same F F' → Sta K C F' H' σ e → ResOk K C F' H' σ e v r → Q v H') (XE C F)
def tT (m : MT) : TT := fun σ H Q => ∃ F env, Sta K C F H σ env ∧ (m env).P (fun b e => ∀ F' H', Same F F' → Sta K C F' H' σ e → Q b H') (XE C F)
def ResAll (F H : Hp) (σ : L2.St) (env : VE) : List V → List Sl → Prop
  | [], [] => True
  | v :: vs, r :: rs => ResOk K C F H σ env v r ∧ isOw r = false ∧ ResAll F H σ env vs rs
  | _, _ => False
def tA (m : MA) : TA := fun σ H Q => ∃ F env, Sta K C F H σ env ∧ (m env).P (fun rs e => ∀ vs F' H', Same F F' → Sta K C F' H' σ e → ResAll K C F' H' σ e vs rs → Q vs H') (XE C F)
end
def DwAll (K : PySem.W.Frag) (F H : Hp) : List V → List Da → Prop
  | [], [] => True
  | v :: vs, r :: rs => Dw K F H v r ∧ DwAll K F H vs rs
  | _, _ => False
def VEj (X : Cx) (C : Cc) (e : Expr) (m : ME) : Prop := PE X e (tM X.K C m)
def VTj (X : Cx) (C : Cc) (e : Expr) (m : MT) : Prop := PT X e (tT X.K C m)
def VAj (X : Cx) (C : Cc) (es : List Expr) (m : MA) : Prop := PA X es (tA X.K C m)
theorem PE.weak {X : Cx} {e : Expr} {t t' : TE} (h : PE X e t) (w : ∀ σ H Q, t' σ H Q → t σ H Q) : PE X e t' := ⟨fun pins s σ H Q I q => h.run pins s σ H Q I (w σ H Q q)⟩
theorem PT.weak {X : Cx} {e : Expr} {t t' : TT} (h : PT X e t) (w : ∀ σ H Q, t' σ H Q → t σ H Q) : PT X e t' := ⟨fun pins s σ H Q I q => h.run pins s σ H Q I (w σ H Q q)⟩
theorem PA.weak {X : Cx} {e : List Expr} {t t' : TA} (h : PA X e t) (w : ∀ σ H Q, t' σ H Q → t σ H Q) : PA X e t' := ⟨fun pos pins s σ H Q I q => h.run pos pins s σ H Q I (w σ H Q q)⟩

/-! ### operands: a fresh list is frozen -/
def opd : Sl → VE → Out Sl
  | .own xs, e => .ok (.val (.list xs)) e
  | .val d, e => .ok (.val d) e
  | .scr ns, e => .ok (.scr ns) e
  | .pk i, e => .ok (.pk i) e
  | _, _ => .no
def mOp (m : ME) : ME := fun env => (m env).bind opd
section
variable {K : PySem.W.Frag} {C : Cc} {F F' H H' : Hp} {σ : L2.St} {env : VE}
theorem opd_ow {r r' : Sl} {e e' : VE} (h : opd r e = .ok r' e') : isOw r' = false ∧ e' = e := by
  cases r <;> cases h <;> exact ⟨rfl, rfl⟩
theorem mOp_ow {m : ME} {r : Sl} {e : VE} (h : mOp m env = .ok r e) : isOw r = false := by
  unfold mOp at h
  cases q : m env with
  | ok a b => rw [q] at h; exact (opd_ow h).1
  | exc x => rw [q] at h; cases h
  | no => rw [q] at h; cases h
theorem op_run {m : ME} {Q : VK} (S : Sta K C F H σ env) (h : (mOp m env).P (fun r e => ∀ v F' H', Same F F' → Sta K C F' H' σ e → ResOk K C F' H' σ e v r → isOw r = false → Q v H') (XE C F)) : tM K C m σ H Q := by
  unfold mOp at h
  rw [P_bind] at h
  refine ⟨F, env, S, P_mono h (fun r e _ q => ?_) fun _ x => x⟩
  intro v F1 H1 s1 S1 R1
  cases r with
  | own xs =>
    obtain ⟨F2, s2, S2, R2⟩ := S1.fz R1
    exact q v F2 H1 (s1.trans s2) S2 R2 rfl
  | val d => exact q v F1 H1 s1 S1 R1 rfl
  | scr ns => exact q v F1 H1 s1 S1 R1 rfl
  | pk i => exact q v F1 H1 s1 S1 R1 rfl
  | no => exact q.elim
  | io xs => exact q.elim
  | odk kvs => exact q.elim
  | odt kvs => exact q.elim
theorem ResAll.keep (s : Same F F') {env' : VE} : ∀ {vs : List V} {rs : List Sl}, ResAll K C F H σ env vs rs → ResAll K C F' H' σ env' vs rs
  | [], [], _ => trivial
  | _ :: _, _ :: _, ⟨a, b, c⟩ => ⟨a.keep b s, b, ResAll.keep s c⟩
  | [], _ :: _, h => h.elim
  | _ :: _, [], h => h.elim
end

/-! ### names, constants -/
def mC (d : Da) : ME := fun e => .ok (.val d) e
def mVarAt (i : Nat) (e : VE) : Option Sl → Out Sl
  | some (.val d) => .ok (.val d) e
  | some (.own xs) => .ok (.val (.list xs)) (e.set i (.val (.list xs)))
  | some (.odk kvs) => .ok (.val (.dict (kdK kvs))) (e.set i (.val (.dict (kdK kvs))))
  | some (.odt kvs) => .ok (.val (.dict (kdT kvs))) (e.set i (.val (.dict (kdT kvs))))
  | some (.scr ns) => .ok (.scr ns) e
  | _ => .no
def mVar (i : Nat) : ME := fun e => mVarAt i e e[i]?
def mPk (i : Nat) : ME := fun e => match lookAt e[i]? with
  | some _ => .ok (.pk i) e
  | none => .no
section
variable {X : Cx} {C : Cc}
theorem e_val {e : Expr} {v : V} {d : Da} (h : PE X e (tC v)) (z : ∀ F, Dz X.K F v d) : VEj X C e (mC d) := PE.weak h fun σ H Q ⟨F, env, S, q⟩ => q v F H (Same.refl F) S (z F)
theorem e_int {i : Int} {j : Nat} {pos : Pos} : VEj X C (.Constant (.int i) j pos) (mC (.int i)) := e_val pe_int fun _ => .int i
theorem e_bl {i : Bool} {j : Nat} {pos : Pos} : VEj X C (.Constant (.bool i) j pos) (mC (.bool i)) := e_val pe_bl fun _ => .bl i
theorem e_str {i : Str} {j : Nat} {pos : Pos} : VEj X C (.Constant (.str i) j pos) (mC (.str i)) := e_val pe_str fun _ => .str i
theorem e_non {j : Nat} {pos : Pos} : VEj X C (.Constant .none j pos) (mC .none) := e_val pe_non fun _ => .non
theorem Sta.apart {K : PySem.W.Frag} {F H : Hp} {σ : L2.St} {env : VE} (S : Sta K C F H σ env) {i : Nat} {s : Sl} {a : Addr} (q : env[i]? = some s) (o : isOw s = true) (e : σ[i]? = some (some (.ref a))) : Apart σ (env.set i .no) a := by
  intro j t h ot g
  rcases get_set h with ⟨rfl, rfl⟩ | ⟨n, h⟩
  · cases ot
  · exact S.dist j i a t s n h ot q o g e
theorem e_var (i : Nat) {x : Str} {pos : Pos} (hN : X.N[i]? = some x := by rfl) (hv : Vis X.env.scope x := by first | exact Or.inl rfl | exact Or.inr (Or.inl rfl) | exact Or.inr (Or.inr rfl)) (hd : (x == ("__debug__" : Str)) = false := by decide)
    (hcd : (x == ("__classdict__" : Str)) = false := by decide) : VEj X C (.Name x pos) (mVar i) := by
  refine ⟨fun pins s σ H Q I h => ?_⟩
  have P0 : PE X (.Name x pos) (tVar i) := pv i hN hv hd hcd
  obtain ⟨F, env, S, q⟩ := h
  unfold mVar at q
  cases g : env[i]? with
  | none => rw [g] at q; exact q.elim
  | some t =>
    rw [g] at q
    have w := S.slot i t g
    have step : ∀ {a : Addr} {u : HO} {d : Da}, isOw t = true → σ[i]? = some (some (V.ref a)) → (∀ F', F' a = some u → Same F F' → Dz X.K F' (.ref a) d) → ∀ {H1 F1 : Hp}, F1 = upd F a u → Sta X.K C F1 H1 σ (env.set i .no) → Sta X.K C F1 H1 σ (env.set i (.val d)) := fun {a u d} ow e z {H1 F1} eF S1 => by
      subst eF
      have z' := z (upd F a u) upd_same (same_upd (S.at g ow e).2.1)
      have S2 := S1.reslot (i := i) (s := .val d) ⟨_, e, z'⟩ fun h => nomatch h
      rw [List.set_set] at S2
      exact S2
    cases t with
    | val d =>
      obtain ⟨v, e, z⟩ := w
      exact P0.run pins s σ H Q I ⟨v, e, q v F H (Same.refl F) S z⟩
    | scr ns =>
      obtain ⟨a, e, z⟩ := w
      exact P0.run pins s σ H Q I ⟨_, e, q _ F H (Same.refl F) S ⟨a, rfl, z⟩⟩
    | own xs =>
      obtain ⟨a, vs, e, h1, h2, h3, h4⟩ := w
      obtain ⟨S1, s1⟩ := (S.drop i).freeze h1 h2 h3 (S.apart g rfl e)
      have S2 := step (u := .lst vs) (d := .list xs) rfl e (fun F' k s => .lst k (h4.mono s)) rfl S1
      exact P0.run pins s σ H Q I ⟨_, e, q _ _ H s1 S2 (.lst upd_same (h4.mono s1))⟩
    | odk kvs =>
      obtain ⟨a, vs, e, h1, h2, h3, h4⟩ := w
      obtain ⟨od, I1⟩ := I.lock h1 trivial
      obtain ⟨S1, s1⟩ := (S.drop i).lock (u := .frz od (.dK vs)) h1 h2 h3 (S.apart g rfl e)
      have S2 := step (u := .frz od (.dK vs)) (d := .dict (kdK kvs)) rfl e (fun F' k s => .dk k (h4.mono s)) rfl S1
      exact P0.run pins s σ _ Q I1 ⟨_, e, q _ _ _ s1 S2 (.dk upd_same (h4.mono s1))⟩
    | odt kvs =>
      obtain ⟨a, vs, e, h1, h2, h3, h4⟩ := w
      obtain ⟨od, I1⟩ := I.lock h1 trivial
      obtain ⟨S1, s1⟩ := (S.drop i).lock (u := .frz od (.dT vs)) h1 h2 h3 (S.apart g rfl e)
      have S2 := step (u := .frz od (.dT vs)) (d := .dict (kdT kvs)) rfl e (fun F' k s => .dt k (h4.mono s)) rfl S1
      exact P0.run pins s σ _ Q I1 ⟨_, e, q _ _ _ s1 S2 (.dt upd_same (h4.mono s1))⟩
    | no => exact q.elim
    | io xs => exact q.elim
    | pk j => exact q.elim
theorem lookAt_slot {K : PySem.W.Frag} {F H : Hp} {σ : L2.St} {env : VE} {i : Nat} {d : Da} (S : Sta K C F H σ env) (h : lookAt env[i]? = some d) : ∃ v, σ[i]? = some (some v) := by
  cases q : env[i]? with
  | none => rw [q] at h; cases h
  | some s =>
    rw [q] at h
    have w := S.slot i s q
    cases s with
    | val x => obtain ⟨v, e, z⟩ := w; exact ⟨_, e⟩
    | own xs => obtain ⟨a, vs, e, _⟩ := w; exact ⟨_, e⟩
    | io xs => obtain ⟨a, vs, e, _⟩ := w; exact ⟨_, e⟩
    | odk kvs => obtain ⟨a, vs, e, _⟩ := w; exact ⟨_, e⟩
    | odt kvs => obtain ⟨a, vs, e, _⟩ := w; exact ⟨_, e⟩
    | _ => cases h
theorem e_pk (i : Nat) {x : Str} {pos : Pos} (hN : X.N[i]? = some x := by rfl) (hv : Vis X.env.scope x := by first | exact Or.inl rfl | exact Or.inr (Or.inl rfl) | exact Or.inr (Or.inr rfl)) (hd : (x == ("__debug__" : Str)) = false := by decide)
    (hcd : (x == ("__classdict__" : Str)) = false := by decide) : VEj X C (.Name x pos) (mPk i) := by
  refine PE.weak (pv i hN hv hd hcd) fun σ H Q ⟨F, env, S, q⟩ => ?_
  unfold mPk at q
  cases g : lookAt env[i]? with
  | none => rw [g] at q; exact q.elim
  | some d =>
    rw [g] at q
    obtain ⟨v, e⟩ := lookAt_slot S g
    exact ⟨v, e, q v F H (Same.refl F) S e⟩
end

/-! ### operators -/
def ret (o : Option Sl) (e : VE) : Out Sl := match o with
  | some r => .ok r e
  | none => .no
def app2 (f : Da → Da → Option Sl) : Option Da → Option Da → VE → Out Sl
  | some x, some y, e => ret (f x y) e
  | _, _, _ => .no
def mBin (f : Da → Da → Option Sl) (ma mb : ME) : ME := fun env => (mOp ma env).bind fun r1 e1 => (mOp mb e1).bind fun r2 e2 => app2 f (look r1 e2) (look r2 e2) e2
def app1 (f : Da → Option Sl) : Option Da → VE → Out Sl
  | some x, e => ret (f x) e
  | _, _ => .no
theorem app2_some {f : Da → Da → Option Sl} {x y : Da} {e : VE} : app2 f (some x) (some y) e = ret (f x y) e := rfl
theorem app1_some {f : Da → Option Sl} {x : Da} {e : VE} : app1 f (some x) e = ret (f x) e := rfl
def mUn (f : Da → Option Sl) (ma : ME) : ME := fun env => (mOp ma env).bind fun r e => app1 f (look r e) e
/-- what a rule by values owes: at operands that stand for dx, dy it goes on with a value that stands for res -/
def Owes (K : PySem.W.Frag) (r : R2) (f : Da → Da → Option Sl) : Prop :=
  ∀ (C : Cc) (F H : Hp) (σ : L2.St) (env : VE) (x y : V) (dx dy : Da) (res : Sl) (Q : VK), Sta K C F H σ env → Dw K F H x dx → Dw K F H y dy → f dx dy = some res →
    (∀ v F' H', Same F F' → Sta K C F' H' σ env → ResOk K C F' H' σ env v res → Q v H') → r x y H Q
def Owes1 (K : PySem.W.Frag) (r : V → Hp → VK → Prop) (f : Da → Option Sl) : Prop :=
  ∀ (C : Cc) (F H : Hp) (σ : L2.St) (env : VE) (x : V) (dx : Da) (res : Sl) (Q : VK), Sta K C F H σ env → Dw K F H x dx → f dx = some res →
    (∀ v F' H', Same F F' → Sta K C F' H' σ env → ResOk K C F' H' σ env v res → Q v H') → r x H Q
section
variable {X : Cx} {C : Cc} {a b c : Expr} {ma mb mc : ME} {pos : Pos}
theorem ow_bin {K : PySem.W.Frag} {f : Da → Da → Option Sl} {r : R2} (w : Owes K r f) {σ : L2.St} {H : Hp} {Q : VK} (h : tM K C (mBin f ma mb) σ H Q) : tM K C ma σ H fun x H1 => tM K C mb σ H1 fun y H2 => r x y H2 Q := by
  obtain ⟨F, env, S, h⟩ := h
  unfold mBin at h
  rw [P_bind] at h
  refine op_run S (P_mono h (fun r1 e1 _ q => ?_) fun _ x => x)
  intro v1 F1 H1 s1 S1 R1 o1
  rw [P_bind] at q
  refine op_run S1 (P_mono q (fun r2 e2 _ q => ?_) fun _ x => x.mono s1)
  intro v2 F2 H2 s2 S2 R2 o2
  cases g1 : look r1 e2 with
  | none => rw [g1] at q; exact q.elim
  | some d1 =>
    cases g2 : look r2 e2 with
    | none => rw [g1, g2] at q; exact q.elim
    | some d2 =>
      rw [g1, g2] at q
      have D1 := S2.look (R1.keep (F' := F2) (H' := H2) o1 s2 (env' := e2)) g1
      have D2 := S2.look R2 g2
      cases g3 : f d1 d2 with
      | none => rw [app2_some, g3] at q; exact q.elim
      | some res =>
        rw [app2_some, g3] at q
        exact w C F2 H2 σ e2 v1 v2 d1 d2 res Q S2 D1 D2 g3 fun v F3 H3 s3 S3 R3 => q v F3 H3 ((s1.trans s2).trans s3) S3 R3
theorem ow_un {K : PySem.W.Frag} {f : Da → Option Sl} {r : V → Hp → VK → Prop} (w : Owes1 K r f) {σ : L2.St} {H : Hp} {Q : VK} (h : tM K C (mUn f ma) σ H Q) : tM K C ma σ H fun x H1 => r x H1 Q := by
  obtain ⟨F, env, S, h⟩ := h
  unfold mUn at h
  rw [P_bind] at h
  refine op_run S (P_mono h (fun r1 e1 _ q => ?_) fun _ x => x)
  intro v1 F1 H1 s1 S1 R1 o1
  cases g1 : look r1 e1 with
  | none => rw [g1] at q; exact q.elim
  | some d1 =>
    rw [g1] at q
    have D1 := S1.look R1 g1
    cases g3 : f d1 with
    | none => rw [app1_some, g3] at q; exact q.elim
    | some res =>
      rw [app1_some, g3] at q
      exact w C F1 H1 σ e1 v1 d1 res Q S1 D1 g3 fun v F3 H3 s3 S3 R3 => q v F3 H3 (s1.trans s3) S3 R3
/-- a binary operator's data: the rule by values and what it gives -/
structure OpD (X : Cx) (fn : Value → Value → Sem Value) (f : Da → Da → Option Sl) : Prop where
  ex : ∃ r : R2, OpR X fn r ∧ Owes X.K r f
theorem e_bin {op : Operator} {f : Da → Da → Option Sl} (ho : OpD X (binaryOp op) f) (ha : VEj X C a ma) (hb : VEj X C b mb) : VEj X C (.BinOp a op b pos) (mBin f ma mb) := by
  obtain ⟨r, hr, w⟩ := ho.ex
  exact PE.weak (pe_op hr ha hb) fun σ H Q h => ow_bin w h
theorem e_cmp {op : CmpOp} {f : Da → Da → Option Sl} (ho : OpD X (compareOp op) f) (hm : behindInMarks op b = false) (ha : VEj X C a ma) (hb : VEj X C b mb) : VEj X C (.Compare a [op] [b] pos) (mBin f ma mb) := by
  obtain ⟨r, hr, w⟩ := ho.ex
  exact PE.weak (pe_cmpR hr ha hb hm) fun σ H Q h => ow_bin w h
/-- several rules for one operator, by the kinds of its operands -/
theorem OpD.or {fn : Value → Value → Sem Value} {f g : Da → Da → Option Sl} (hf : OpD X fn f) (hg : OpD X fn g) : OpD X fn (fun x y => (f x y).or (g x y)) := by
  obtain ⟨r, hr, w⟩ := hf.ex
  obtain ⟨r', hr', w'⟩ := hg.ex
  refine ⟨_, hr.or hr', fun C F H σ env x y dx dy res Q S Dx Dy e k => ?_⟩
  have e : (f dx dy).or (g dx dy) = some res := e
  cases q : f dx dy with
  | some z =>
    rw [q] at e
    cases e
    exact .inl (w C F H σ env x y dx dy _ Q S Dx Dy q k)
  | none =>
    rw [q] at e
    exact .inr (w' C F H σ env x y dx dy _ Q S Dx Dy e k)
/-- a result that stands by itself -/
theorem Owes.flat {K : PySem.W.Frag} {r : R2} {f : Da → Da → Option Sl} (h : ∀ (F H : Hp) (x y : V) (dx dy : Da) (res : Sl) (Q : VK), Same F H → Dw K F H x dx → Dw K F H y dy → f dx dy = some res →
    (∀ v d, res = .val d → Dz K F v d → Q v H) → r x y H Q) : Owes K r f := fun C F H σ env x y dx dy res Q S Dx Dy e k =>
  h F H x y dx dy res Q S.sub Dx Dy e fun v d ed z => k v F H (Same.refl F) S (by rw [ed]; exact z)

/-! ### the operators of whole numbers -/
def iI (c : Int → Int → Prop) [∀ i j, Decidable (c i j)] (g : Int → Int → Int) : Da → Da → Option Sl
  | .int i, .int j => if c i j then some (.val (.int (g i j))) else none
  | _, _ => none
theorem opd_I {fn : Value → Value → Sem Value} {c : Int → Int → Prop} [∀ i j, Decidable (c i j)] {g : Int → Int → Int} (h : OpR X fn (rI c fun i j => .int (g i j))) : OpD X fn (iI c g) := by
  refine ⟨_, h, Owes.flat fun F H x y dx dy res Q s Dx Dy e k => ?_⟩
  cases dx with
  | int i =>
    cases dy with
    | int j =>
      have ex := Dx.int
      have ey := Dy.int
      subst ex
      subst ey
      by_cases hc : c i j
      · simp only [iI, hc, if_true] at e
        exact ⟨i, j, rfl, rfl, hc, k _ _ (Option.some.inj e).symm (.int _)⟩
      · simp only [iI, hc, if_false] at e
        cases e
    | _ => cases e
  | _ => cases e
def iI0 (g : Int → Int → Int) : Da → Da → Option Sl
  | .int i, .int j => some (.val (.int (g i j)))
  | _, _ => none
theorem opd_I0 {fn : Value → Value → Sem Value} {g : Int → Int → Int} (h : OpR X fn (rI0 fun i j => .int (g i j))) : OpD X fn (iI0 g) := by
  refine ⟨_, h, Owes.flat fun F H x y dx dy res Q s Dx Dy e k => ?_⟩
  cases dx with
  | int i =>
    cases dy with
    | int j =>
      have ex := Dx.int
      have ey := Dy.int
      subst ex
      subst ey
      exact ⟨i, j, rfl, rfl, k _ _ (Option.some.inj e).symm (.int _)⟩
    | _ => cases e
  | _ => cases e
def iB0 (g : Int → Int → Bool) : Da → Da → Option Sl
  | .int i, .int j => some (.val (.bool (g i j)))
  | _, _ => none
theorem opd_B0 {fn : Value → Value → Sem Value} {g : Int → Int → Bool} (h : OpR X fn (rI0 fun i j => .bl (g i j))) : OpD X fn (iB0 g) := by
  refine ⟨_, h, Owes.flat fun F H x y dx dy res Q s Dx Dy e k => ?_⟩
  cases dx with
  | int i =>
    cases dy with
    | int j =>
      have ex := Dx.int
      have ey := Dy.int
      subst ex
      subst ey
      exact ⟨i, j, rfl, rfl, k _ _ (Option.some.inj e).symm (.bl _)⟩
    | _ => cases e
  | _ => cases e
instance (i j : Int) : Decidable (CDiv i j) := by unfold CDiv; infer_instance
instance (i j : Int) : Decidable (CPow i j) := by unfold CPow; infer_instance
instance (i j : Int) : Decidable (CMul i j) := by unfold CMul; infer_instance
abbrev fSub := iI0 fun i j => i - j
abbrev fFdiv := iI CDiv fun i j => i / j
abbrev fMod := iI (fun _ j => 0 < j) fun i j => i % j
abbrev fShl := iI CPow fun i j => i * 2 ^ j.toNat
abbrev fShr := iI (fun _ j => 0 ≤ j) fun i j => i / 2 ^ j.toNat
abbrev fPow := iI CPow fun i j => i ^ j.toNat
abbrev fAnd := iI0 Builtin.bitAnd
abbrev fOr := iI0 Builtin.bitOr
abbrev fXor := iI0 Builtin.bitXor
abbrev fMulI := iI CMul fun i j => i * j
abbrev fLt := iB0 fun i j => decide (i < j)
abbrev fLe := iB0 fun i j => decide (i ≤ j)
abbrev fGt := iB0 fun i j => decide (j < i)
abbrev fGe := iB0 fun i j => decide (j ≤ i)
theorem d_sub : OpD X (binaryOp .Sub) fSub := opd_I0 op_sub
theorem d_fdiv : OpD X (binaryOp .FloorDiv) fFdiv := opd_I op_fdiv
theorem d_mod : OpD X (binaryOp .Mod) fMod := opd_I op_mod
theorem d_shl : OpD X (binaryOp .LShift) fShl := opd_I op_shl
theorem d_shr : OpD X (binaryOp .RShift) fShr := opd_I op_shr
theorem d_pow : OpD X (binaryOp .Pow) fPow := opd_I op_pow
theorem d_and : OpD X (binaryOp .BitAnd) fAnd := opd_I0 op_and
theorem d_or : OpD X (binaryOp .BitOr) fOr := opd_I0 op_or
theorem d_xor : OpD X (binaryOp .BitXor) fXor := opd_I0 op_xor
theorem d_mulI : OpD X (binaryOp .Mult) fMulI := opd_I op_mul
theorem d_lt : OpD X (compareOp .Lt) fLt := opd_B0 op_lt
theorem d_le : OpD X (compareOp .LtE) fLe := opd_B0 op_le
theorem d_gt : OpD X (compareOp .Gt) fGt := opd_B0 op_gt
theorem d_ge : OpD X (compareOp .GtE) fGe := opd_B0 op_ge

/-! ### + of numbers, texts, lists, tuples -/
def fCatL : Da → Da → Option Sl
  | .list xs, .list ys => if xs.length + ys.length ≤ sizeLine then some (.own (xs ++ ys)) else none
  | _, _ => none
theorem d_catL : OpD X (binaryOp .Add) fCatL := by
  refine ⟨_, op_cat, fun C F H σ env x y dx dy res Q S Dx Dy e k => ?_⟩
  cases dx with
  | list xs =>
    cases dy with
    | list ys =>
      obtain ⟨p, vs, rfl, h1, z1⟩ := Dx.lst S.sub
      obtain ⟨q, ws, rfl, h2, z2⟩ := Dy.lst S.sub
      by_cases hl : xs.length + ys.length ≤ sizeLine
      · simp only [fCatL, hl, if_true] at e
        cases e
        refine ⟨p, q, vs, ws, rfl, rfl, h1, h2, by rw [z1.length, z2.length]; exact hl, fun r hr => ?_⟩
        obtain ⟨n1, n2, n3⟩ := S.new hr
        exact k _ F _ (Same.refl F) (S.alloc hr) ⟨r, _, rfl, upd_same, n1, n2, z1.append z2, n3⟩
      · simp only [fCatL, hl, if_false] at e
        cases e
    | _ => cases e
  | _ => cases e
def fCatT : Da → Da → Option Sl
  | .tuple xs, .tuple ys => if xs.length + ys.length ≤ sizeLine then some (.val (.tuple (xs ++ ys))) else none
  | _, _ => none
theorem d_catT : OpD X (binaryOp .Add) fCatT := by
  refine ⟨_, op_catA, fun C F H σ env x y dx dy res Q S Dx Dy e k => ?_⟩
  cases dx with
  | tuple xs =>
    cases dy with
    | tuple ys =>
      obtain ⟨p, vs, rfl, h1, z1⟩ := Dx.tup
      obtain ⟨q, ws, rfl, h2, z2⟩ := Dy.tup
      by_cases hl : xs.length + ys.length ≤ sizeLine
      · simp only [fCatT, hl, if_true] at e
        cases e
        refine ⟨p, q, vs, ws, rfl, rfl, .of (S.sub _ _ h1), .of (S.sub _ _ h2), by rw [z1.length, z2.length]; exact hl, fun e0 => ?_, fun _ e0 => ?_, fun _ _ r hr => ?_⟩
        · subst e0
          cases z1
          exact k _ F H (Same.refl F) S (.tup h2 z2)
        · subst e0
          cases z2
          rw [List.append_nil] at k
          exact k _ F H (Same.refl F) S (.tup h1 z1)
        · obtain ⟨S', s'⟩ := S.allocF (o := .tup (vs ++ ws)) hr
          exact k _ _ _ s' S' (.tup upd_same ((z1.append z2).mono s'))
      · simp only [fCatT, hl, if_false] at e
        cases e
    | _ => cases e
  | _ => cases e
def fCatS : Da → Da → Option Sl
  | .str x, .str y => if x.length + y.length ≤ sizeLine then some (.val (.str (x ++ y))) else none
  | _, _ => none
theorem d_catS : OpD X (binaryOp .Add) fCatS := by
  refine ⟨_, op_add_str, Owes.flat fun F H x y dx dy res Q s Dx Dy e k => ?_⟩
  cases dx with
  | str i =>
    cases dy with
    | str j =>
      have ex := Dx.str
      have ey := Dy.str
      subst ex
      subst ey
      by_cases hl : i.length + j.length ≤ sizeLine
      · simp only [fCatS, hl, if_true] at e
        exact ⟨i, j, rfl, rfl, hl, k _ _ (Option.some.inj e).symm (.str _)⟩
      · simp only [fCatS, hl, if_false] at e
        cases e
    | _ => cases e
  | _ => cases e
def fAdd (x y : Da) : Option Sl := (iI0 (fun i j => i + j) x y).or ((fCatL x y).or ((fCatT x y).or (fCatS x y)))
theorem d_add : OpD X (binaryOp .Add) fAdd := (opd_I0 op_add).or (d_catL.or (d_catT.or d_catS))
/-! ### * of a list and a number -/
def fRepL : Da → Da → Option Sl
  | .list xs, .int k => if -(2 ^ 63) ≤ k ∧ k < 2 ^ 63 ∧ xs.length * k.toNat ≤ sizeLine then some (.own (List.replicate k.toNat xs).flatten) else none
  | _, _ => none
theorem d_repL : OpD X (binaryOp .Mult) fRepL := by
  refine ⟨_, op_rep, fun C F H σ env x y dx dy res Q S Dx Dy e k => ?_⟩
  cases dx with
  | list xs =>
    cases dy with
    | int n =>
      obtain ⟨p, vs, rfl, h1, z1⟩ := Dx.lst S.sub
      have ey := Dy.int
      subst ey
      by_cases hl : -(2 ^ 63) ≤ n ∧ n < 2 ^ 63 ∧ xs.length * n.toNat ≤ sizeLine
      · simp only [fRepL, hl, if_true] at e
        have e : some (Sl.own (List.replicate n.toNat xs).flatten) = some res := by simpa using e
        cases e
        refine ⟨p, n, vs, rfl, rfl, h1, hl.1, hl.2.1, by rw [z1.length]; exact hl.2.2, fun r hr => ?_⟩
        obtain ⟨n1, n2, n3⟩ := S.new hr
        exact k _ F _ (Same.refl F) (S.alloc hr) ⟨r, _, rfl, upd_same, n1, n2, z1.flat _, n3⟩
      · simp only [fRepL, hl, if_false] at e
        cases e
    | _ => cases e
  | _ => cases e
def fMul (x y : Da) : Option Sl := (fMulI x y).or (fRepL x y)
theorem d_mul : OpD X (binaryOp .Mult) fMul := d_mulI.or d_repL
end
end VL
namespace VL
open PySem PySem.Spec PyProof.Rows L2

/-! ### data as the layer's own deep data -/
mutual
theorem Dz.dp {K : PySem.W.Frag} {F : Hp} : ∀ {v : V} {d : Da}, Dz K F v d → d.canLay0 = true → Dp K F v d
  | _, _, .non, _ => .non
  | _, _, .bl b, _ => .bl b
  | _, _, .int i, _ => .int i
  | _, _, .str x, _ => .str x
  | _, _, .lst h t, c => .lst (.of h) (DzAll.dp t (by simpa [PyData.canLay0] using c))
  | _, _, .tup h t, c => .tup (.of h) (DzAll.dp t (by simpa [PyData.canLay0] using c))
  | _, _, .dk _ _, c => by simp [PyData.canLay0] at c
  | _, _, .dt _ _, c => by simp [PyData.canLay0] at c
theorem DzAll.dp {K : PySem.W.Frag} {F : Hp} : ∀ {v : List V} {d : List Da}, DzAll K F v d → PyData.canLayAll0 d = true → DpAll K F v d
  | _, _, .nil, _ => .nil
  | _, _, .cons a t, c => by
    rw [PyData.canLayAll0, Bool.and_eq_true] at c
    exact .cons (Dz.dp a c.1) (DzAll.dp t c.2)
end
theorem Same.seqT {K : PySem.W.Frag} {H H' : Hp} {a : Addr} {xs : List V} (e : Same H H') (h : SqT K H a xs) : SqT K H' a xs := by
  rcases h with (h | ⟨o, h⟩) | h
  · exact .inl (.inl (e _ _ h))
  · exact .inl (.inr ⟨o, e _ _ h⟩)
  · exact .inr h
mutual
theorem Dp_mono {K : PySem.W.Frag} {F H : Hp} (s : Same F H) : ∀ {v : V} {d : Da}, Dp K F v d → Dp K H v d
  | _, _, .non => .non
  | _, _, .bl b => .bl b
  | _, _, .int i => .int i
  | _, _, .str x => .str x
  | _, _, .lst h t => .lst (s.seq h) (DpAll_mono s t)
  | _, _, .tup h t => .tup (Same.seqT s h) (DpAll_mono s t)
theorem DpAll_mono {K : PySem.W.Frag} {F H : Hp} (s : Same F H) : ∀ {v : List V} {d : List Da}, DpAll K F v d → DpAll K H v d
  | _, _, .nil => .nil
  | _, _, .cons a t => .cons (Dp_mono s a) (DpAll_mono s t)
end
theorem Dw.dp {K : PySem.W.Frag} {F H : Hp} {v : V} {d : Da} (s : Same F H) (h : Dw K F H v d) (c : d.canLay0 = true) : Dp K H v d := by
  rcases h with h | ⟨a, vs, xs, rfl, rfl, h1, z⟩ | ⟨_, _, _, _, rfl, _⟩ | ⟨_, _, _, _, rfl, _⟩
  · exact Dp_mono s (h.dp c)
  · exact .lst (.of h1) (DpAll_mono s (z.dp (by simpa [PyData.canLay0] using c)))
  · simp [PyData.canLay0] at c
  · simp [PyData.canLay0] at c
theorem Dw.keep {K : PySem.W.Frag} {F F' H H' : Hp} {v : V} {d : Da} (s : Same F F') (h : Dz K F v d) : Dw K F' H' v d := .inl (h.mono s)

theorem ite_some {α : Type} {c : Prop} [Decidable c] {a b : α} (h : (if c then some a else none) = some b) : c ∧ a = b := by
  by_cases hc : c
  · rw [if_pos hc] at h; exact ⟨hc, Option.some.inj h⟩
  · rw [if_neg hc] at h; cases h
section
variable {X : Cx} {C : Cc} {a b c : Expr} {ma mb mc : ME} {pos : Pos}
/-! ### == and != -/
def fEq (x y : Da) : Option Sl := if SeqAt.shaped x = true ∧ SeqAt.shaped y = true then some (.val (.bool (PyData.eqv x y))) else none
def fNe (x y : Da) : Option Sl := if SeqAt.shaped x = true ∧ SeqAt.shaped y = true then some (.val (.bool (!PyData.eqv x y))) else none
theorem d_eq (hu : X.A.units + 64 < cLine) : OpD X (compareOp .Eq) fEq := by
  refine ⟨_, op_eqD hu, Owes.flat fun F H x y dx dy res Q s Dx Dy e k => ?_⟩
  unfold fEq at e
  split at e
  · rename_i hs
    exact ⟨dx, dy, Dx.dp s (SeqAt.canLay_of_shaped hs.1), Dy.dp s (SeqAt.canLay_of_shaped hs.2), hs.1, hs.2, k _ _ (Option.some.inj e).symm (.bl _)⟩
  · cases e
theorem d_ne (hu : X.A.units + 64 < cLine) : OpD X (compareOp .NotEq) fNe := by
  refine ⟨_, op_neD hu, Owes.flat fun F H x y dx dy res Q s Dx Dy e k => ?_⟩
  unfold fNe at e
  split at e
  · rename_i hs
    exact ⟨dx, dy, Dx.dp s (SeqAt.canLay_of_shaped hs.1), Dy.dp s (SeqAt.canLay_of_shaped hs.2), hs.1, hs.2, k _ _ (Option.some.inj e).symm (.bl _)⟩
  · cases e
/-! ### in, not in: lists of any data, tuples of flat data -/
def fInL (neg : Bool) : Da → Da → Option Sl
  | x, .list ds => if SeqAt.shaped x = true ∧ SeqAt.shaped (.list ds) = true then some (.val (.bool (neg ^^ ds.any fun z => PyData.eqv z x))) else none
  | _, _ => none
theorem d_inL (hu : X.A.units + 65 < cLine) : OpD X (compareOp .In) (fInL false) := by
  refine ⟨_, op_inD hu, Owes.flat fun F H x y dx dy res Q s Dx Dy e k => ?_⟩
  cases dy with
  | list ds =>
    obtain ⟨hs, e⟩ := ite_some e
    exact ⟨dx, ds, Dx.dp s (SeqAt.canLay_of_shaped hs.1), Dy.dp s (SeqAt.canLay_of_shaped hs.2), hs.1, hs.2, k _ _ e.symm (by simpa using Dz.bl _)⟩
  | _ => cases e
theorem d_notInL (hu : X.A.units + 65 < cLine) : OpD X (compareOp .NotIn) (fInL true) := by
  refine ⟨_, op_notInD hu, Owes.flat fun F H x y dx dy res Q s Dx Dy e k => ?_⟩
  cases dy with
  | list ds =>
    obtain ⟨hs, e⟩ := ite_some e
    exact ⟨dx, ds, Dx.dp s (SeqAt.canLay_of_shaped hs.1), Dy.dp s (SeqAt.canLay_of_shaped hs.2), hs.1, hs.2, k _ _ e.symm (by simpa using Dz.bl _)⟩
  | _ => cases e
def flatD : Da → Bool
  | .none | .bool _ | .int _ | .str _ => true
  | _ => false
theorem flat_v {K : PySem.W.Frag} {F : Hp} {v : V} {d : Da} (h : Dz K F v d) (f : flatD d = true) : flatV v = true := by
  cases h <;> first | rfl | cases f
theorem flat_eq {K : PySem.W.Frag} {F : Hp} {v w : V} {d e : Da} (h : Dz K F v d) (h' : Dz K F w e) (f : flatD d = true) (f' : flatD e = true) : eqV v w = PyData.eqv d e := by
  cases h <;> cases h' <;> first | rfl | cases f | cases f' | (simp only [eqV, PyData.eqv])
theorem flat_all {K : PySem.W.Frag} {F : Hp} : ∀ {vs : List V} {ds : List Da}, DzAll K F vs ds → ds.all flatD = true → vs.all flatV = true
  | _, _, .nil, _ => rfl
  | _, _, .cons a t, f => by
    simp only [List.all_cons, Bool.and_eq_true] at f ⊢
    exact ⟨flat_v a f.1, flat_all t f.2⟩
theorem flat_any {K : PySem.W.Frag} {F : Hp} {w : V} {e : Da} (h' : Dz K F w e) (f' : flatD e = true) : ∀ {vs : List V} {ds : List Da}, DzAll K F vs ds → ds.all flatD = true → inV w vs = ds.any fun z => PyData.eqv z e
  | _, _, .nil, _ => rfl
  | _, _, .cons a t, f => by
    simp only [List.all_cons, Bool.and_eq_true] at f
    have ih := flat_any h' f' t f.2
    unfold inV at ih ⊢
    rw [List.any_cons, List.any_cons, ih, flat_eq a h' f.1 f']
def fInT (neg : Bool) : Da → Da → Option Sl
  | x, .tuple ds => if flatD x = true ∧ ds.all flatD = true then some (.val (.bool (neg ^^ ds.any fun z => PyData.eqv z x))) else none
  | _, _ => none
theorem Dw.flat {K : PySem.W.Frag} {F H : Hp} {v : V} {d : Da} (h : Dw K F H v d) (f : flatD d = true) : Dz K F v d := by
  rcases h with h | ⟨_, _, _, _, rfl, _⟩ | ⟨_, _, _, _, rfl, _⟩ | ⟨_, _, _, _, rfl, _⟩
  · exact h
  all_goals cases f
theorem owes_inT (K : PySem.W.Frag) (neg : Bool) : Owes K (rIn K neg) (fInT neg) := by
  refine Owes.flat fun F H x y dx dy res Q s Dx Dy e k => ?_
  cases dy with
  | tuple ds =>
    obtain ⟨hs, e⟩ := ite_some e
    obtain ⟨p, vs, rfl, h1, z1⟩ := Dy.tup
    have zx := Dx.flat hs.1
    refine ⟨p, vs, rfl, .inr (.of (s _ _ h1)), flat_v zx hs.1, flat_all z1 hs.2, ?_⟩
    rw [flat_any zx hs.1 z1 hs.2]
    refine k _ _ e.symm ?_
    cases neg <;> simpa using Dz.bl _
  | _ => cases e
theorem d_inT : OpD X (compareOp .In) (fInT false) := ⟨_, op_in_seq, owes_inT X.K false⟩
theorem d_notInT : OpD X (compareOp .NotIn) (fInT true) := ⟨_, op_notIn_seq, owes_inT X.K true⟩
def fIn (x y : Da) : Option Sl := (fInL false x y).or (fInT false x y)
def fNotIn (x y : Da) : Option Sl := (fInL true x y).or (fInT true x y)
theorem d_in (hu : X.A.units + 65 < cLine) : OpD X (compareOp .In) fIn := (d_inL hu).or d_inT
theorem d_notIn (hu : X.A.units + 65 < cLine) : OpD X (compareOp .NotIn) fNotIn := (d_notInL hu).or d_notInT
/-! ### is None, is True -/
def isNon : Da → Bool
  | .none => true
  | _ => false
def fIsN (neg : Bool) : Da → Da → Option Sl
  | x, .none => some (.val (.bool (neg ^^ isNon x)))
  | _, _ => none
theorem dw_non {K : PySem.W.Frag} {F H : Hp} {v : V} {d : Da} (h : Dw K F H v d) : decide (v = .non) = isNon d := by
  rcases h with h | ⟨_, _, _, rfl, rfl, _⟩ | ⟨_, _, _, rfl, rfl, _⟩ | ⟨_, _, _, rfl, rfl, _⟩
  · cases h <;> first | rfl | exact decide_eq_false (fun z => nomatch z)
  all_goals exact decide_eq_false (fun z => nomatch z)
theorem d_isN : OpD X (compareOp .Is) (fIsN false) := by
  refine ⟨_, op_isN, Owes.flat fun F H x y dx dy res Q s Dx Dy e k => ?_⟩
  cases dy with
  | none =>
    refine ⟨Dy.non, ?_⟩
    rw [dw_non Dx]
    exact k _ _ (Option.some.inj e).symm (by simpa using Dz.bl _)
  | _ => cases e
theorem d_notN : OpD X (compareOp .IsNot) (fIsN true) := by
  refine ⟨_, op_notN, Owes.flat fun F H x y dx dy res Q s Dx Dy e k => ?_⟩
  cases dy with
  | none =>
    refine ⟨Dy.non, ?_⟩
    rw [dw_non Dx]
    exact k _ _ (Option.some.inj e).symm (by simpa using Dz.bl _)
  | _ => cases e
def fIsB (neg : Bool) : Da → Da → Option Sl
  | .bool x, .bool y => some (.val (.bool (neg ^^ decide (x = y))))
  | _, _ => none
theorem d_isB : OpD X (compareOp .Is) (fIsB false) := by
  refine ⟨_, op_isBl, Owes.flat fun F H x y dx dy res Q s Dx Dy e k => ?_⟩
  cases dx with
  | bool i =>
    cases dy with
    | bool j => exact ⟨i, j, Dx.bl, Dy.bl, k _ _ (Option.some.inj e).symm (by simpa using Dz.bl _)⟩
    | _ => cases e
  | _ => cases e
theorem d_notB : OpD X (compareOp .IsNot) (fIsB true) := by
  refine ⟨_, op_notBl, Owes.flat fun F H x y dx dy res Q s Dx Dy e k => ?_⟩
  cases dx with
  | bool i =>
    cases dy with
    | bool j => exact ⟨i, j, Dx.bl, Dy.bl, k _ _ (Option.some.inj e).symm (by simpa using Dz.bl _)⟩
    | _ => cases e
  | _ => cases e
def fIs (x y : Da) : Option Sl := (fIsN false x y).or (fIsB false x y)
def fIsNot (x y : Da) : Option Sl := (fIsN true x y).or (fIsB true x y)
theorem d_is : OpD X (compareOp .Is) fIs := d_isN.or d_isB
theorem d_isNot : OpD X (compareOp .IsNot) fIsNot := d_notN.or d_notB
/-! ### -x -/
def fNeg : Da → Option Sl
  | .int i => some (.val (.int (-i)))
  | _ => none
theorem e_neg (ha : VEj X C a ma) : VEj X C (.UnaryOp .USub a pos) (mUn fNeg ma) := by
  refine PE.weak (pe_un un_neg ha) fun σ H Q h => ow_un (r := rU fun i => .int (-i)) (fun C F H σ env x dx res Q S Dx e k => ?_) h
  cases dx with
  | int i =>
    have ex := Dx.int
    subst ex
    cases e
    exact ⟨i, rfl, k _ F H (Same.refl F) S (.int _)⟩
  | _ => cases e

/-! ### tests -/
def tst : Option Da → VE → Out Bool
  | some (.bool b), e => .ok b e
  | _, _ => .no
def mTB (m : ME) : MT := fun env => (mOp m env).bind fun r e => tst (look r e) e
theorem tst_of {K : PySem.W.Frag} {σ : L2.St} {H : Hp} {Q : Bool → Hp → Prop} (h : tT K C (mTB ma) σ H Q) : tM K C ma σ H fun x H' => ∃ k, x = .bl k ∧ Q k H' := by
  obtain ⟨F, env, S, h⟩ := h
  unfold mTB at h
  rw [P_bind] at h
  refine op_run S (P_mono h (fun r e _ q => ?_) fun _ x => x)
  intro v F1 H1 s1 S1 R1 o1
  cases g : look r e with
  | none => rw [g] at q; exact q.elim
  | some d =>
    rw [g] at q
    have D1 := S1.look R1 g
    cases d with
    | bool k => exact ⟨k, D1.bl, q F1 H1 s1 S1⟩
    | _ => exact q.elim
theorem t_cmp {op : CmpOp} {f : Da → Da → Option Sl} (ho : OpD X (compareOp op) f) (hm : behindInMarks op b = false) (ha : VEj X C a ma) (hb : VEj X C b mb) : VTj X C (.Compare a [op] [b] pos) (mTB (mBin f ma mb)) := by
  obtain ⟨r, hr, w⟩ := ho.ex
  exact PT.weak (pt_cmpR hr ha hb hm) fun σ H Q h => ow_bin w (tst_of h)
theorem t_val (ha : VEj X C a ma) (he : ∀ whole, isTrue a X.env whole = (do let v ← whole; standAt a.pos; holding [v] (truthy v)) := by intro _; rfl) : VTj X C a (mTB ma) :=
  PT.weak (pt_val ha he) fun σ H Q h => tst_of h
def fTru : Da → Option Bool
  | .none => some false
  | .bool b => some b
  | .int i => some (i != 0)
  | .list xs => some (!xs.isEmpty)
  | .tuple xs => some (!xs.isEmpty)
  | _ => none
def tru : Option Da → VE → Out Bool
  | some d, e => match fTru d with
    | some b => .ok b e
    | none => .no
  | _, _ => .no
def mTru (m : ME) : MT := fun env => (mOp m env).bind fun r e => tru (look r e) e
theorem isE_len {vs : List V} {ds : List Da} (h : vs.length = ds.length) : (!ds.isEmpty) = !vs.isEmpty := by
  cases vs <;> cases ds <;> simp_all
theorem dw_tru {K : PySem.W.Frag} {F H : Hp} {v : V} {d : Da} {k : Bool} (s : Same F H) (h : Dw K F H v d) (e : fTru d = some k) : TruV K v H k := by
  cases d with
  | none => have := h.non; subst this; exact (Option.some.inj e).symm
  | bool b => have := h.bl; subst this; exact (Option.some.inj e).symm
  | int i => have := h.int; subst this; exact (Option.some.inj e).symm
  | list xs =>
    obtain ⟨p, vs, rfl, h1, z1⟩ := h.lst s
    exact .inl ⟨vs, .of h1, by rw [← Option.some.inj e]; exact isE_len z1.length⟩
  | tuple xs =>
    obtain ⟨p, vs, rfl, h1, z1⟩ := h.tup
    exact .inr (.inl ⟨vs, .of (s _ _ h1), by rw [← Option.some.inj e]; exact isE_len z1.length⟩)
  | _ => cases e
theorem t_tru (ha : VEj X C a ma) (he : ∀ whole, isTrue a X.env whole = (do let v ← whole; standAt a.pos; holding [v] (truthy v)) := by intro _; rfl) : VTj X C a (mTru ma) := by
  refine PT.weak (pt_truth ha he) fun σ H Q h => ?_
  obtain ⟨F, env, S, h⟩ := h
  unfold mTru at h
  rw [P_bind] at h
  refine op_run S (P_mono h (fun r e _ q => ?_) fun _ x => x)
  intro v F1 H1 s1 S1 R1 o1
  cases g : look r e with
  | none => rw [g] at q; exact q.elim
  | some d =>
    rw [g] at q
    have D1 := S1.look R1 g
    unfold tru at q
    cases g2 : fTru d with
    | none => simp only [g2] at q; exact q.elim
    | some k => simp only [g2] at q; exact ⟨k, dw_tru S1.sub D1 g2, q F1 H1 s1 S1⟩
/-- and, or, not -/
def mAnd (ta tb : MT) : MT := fun env => (ta env).bind fun c e => if c = true then tb e else .ok false e
def mOr (ta tb : MT) : MT := fun env => (ta env).bind fun c e => if c = true then .ok true e else tb e
def mNot (ta : MT) : MT := fun env => (ta env).bind fun c e => .ok (!c) e
def VWj (X : Cx) (C : Cc) (e : Expr) (m : MT) : Prop := PW X e (tT X.K C m)
theorem PW.weak {X : Cx} {e : Expr} {t t' : TT} (h : PW X e t) (w : ∀ σ H Q, t' σ H Q → t σ H Q) : PW X e t' := ⟨fun wh pins s σ H Q I q => h.run wh pins s σ H Q I (w σ H Q q)⟩
variable {ta tb tc : MT} {rest : List Expr}
theorem tT_bind {K : PySem.W.Frag} {f : Bool → VE → Out Bool} {σ : L2.St} {H : Hp} {Q : Bool → Hp → Prop} {R : Bool → Hp → Prop} (h : tT K C (fun env => (ta env).bind f) σ H Q)
    (w : ∀ c F H env, Sta K C F H σ env → (f c env).P (fun b e => ∀ F' H', Same F F' → Sta K C F' H' σ e → Q b H') (XE C F) → R c H) : tT K C ta σ H R := by
  obtain ⟨F, env, S, h⟩ := h
  rw [P_bind] at h
  refine ⟨F, env, S, P_mono h (fun c e _ q => ?_) fun _ x => x⟩
  intro F1 H1 s1 S1
  exact w c F1 H1 e S1 (P_mono q (fun b e2 _ z F2 H2 s2 S2 => z F2 H2 (s1.trans s2) S2) fun _ x => x.mono s1)
theorem and_w {K : PySem.W.Frag} {σ : L2.St} {H : Hp} {Q : Bool → Hp → Prop} (h : tT K C (mAnd ta tb) σ H Q) : tAnd (tT K C ta) (tT K C tb) σ H Q := tT_bind h fun c F H env S q => by
  cases c with
  | true => rw [if_pos rfl] at q ⊢; exact ⟨F, env, S, q⟩
  | false => rw [if_neg Bool.false_ne_true] at q ⊢; exact q F H (Same.refl F) S
theorem or_w {K : PySem.W.Frag} {σ : L2.St} {H : Hp} {Q : Bool → Hp → Prop} (h : tT K C (mOr ta tb) σ H Q) : tOr (tT K C ta) (tT K C tb) σ H Q := tT_bind h fun c F H env S q => by
  cases c with
  | true => rw [if_pos rfl] at q ⊢; exact q F H (Same.refl F) S
  | false => rw [if_neg Bool.false_ne_true] at q ⊢; exact ⟨F, env, S, q⟩
theorem w_and1 (ha : VTj X C a ta) : VWj X C (.BoolOp .And [a] pos) ta := pw_and1 ha
theorem w_or1 (ha : VTj X C a ta) : VWj X C (.BoolOp .Or [a] pos) ta := pw_or1 ha
theorem w_and (ha : VTj X C a ta) (hb : VWj X C (.BoolOp .And (b :: rest) pos) tb) : VWj X C (.BoolOp .And (a :: b :: rest) pos) (mAnd ta tb) := PW.weak (pw_and ha hb) fun _ _ _ h => and_w h
theorem w_or (ha : VTj X C a ta) (hb : VWj X C (.BoolOp .Or (b :: rest) pos) tb) : VWj X C (.BoolOp .Or (a :: b :: rest) pos) (mOr ta tb) := PW.weak (pw_or ha hb) fun _ _ _ h => or_w h
theorem t_w (h : VWj X C a ta) : VTj X C a ta := PW.pt h
theorem t_not (ha : VTj X C a ta) : VTj X C (.UnaryOp .Not a pos) (mNot ta) := PT.weak (pt_not ha) fun _ _ _ h => tT_bind h fun c F H env S q => q F H (Same.refl F) S
/-- a test as a value: and, or, not of truth values -/
def mBV (t : MT) : ME := fun env => (t env).bind fun c e => .ok (.val (.bool c)) e
theorem bv_not {K : PySem.W.Frag} {σ : L2.St} {H : Hp} {Q : VK} (h : tM K C (mBV (mNot (mTB ma))) σ H Q) : tNotV (tM K C ma) σ H Q := by
  refine tst_of (C := C) (Q := fun c H1 => Q (.bl (!c)) H1) ?_
  obtain ⟨F, env, S, h⟩ := h
  unfold mBV mNot at h
  rw [P_bind, P_bind] at h
  exact ⟨F, env, S, P_mono h (fun c e _ q F1 H1 s1 S1 => q _ F1 H1 s1 S1 (.bl _)) fun _ x => x⟩
theorem e_not (ha : VEj X C a ma) : VEj X C (.UnaryOp .Not a pos) (mBV (mNot (mTB ma))) := PE.weak (pe_not ha) fun _ _ _ h => bv_not h
def mAndV (m : ME) (m2 : ME) : ME := fun env => (mTB m env).bind fun c e => if c = true then m2 e else .ok (.val (.bool false)) e
def mOrV (m : ME) (m2 : ME) : ME := fun env => (mTB m env).bind fun c e => if c = true then .ok (.val (.bool true)) e else m2 e
theorem e_one {op : BoolOp} (ha : VEj X C a ma) : VEj X C (.BoolOp op [a] pos) ma := pe_one ha
theorem tM_bindT {K : PySem.W.Frag} {f : Bool → VE → Out Sl} {σ : L2.St} {H : Hp} {Q : VK} {R : Bool → Hp → Prop} (h : tM K C (fun env => (ta env).bind f) σ H Q)
    (w : ∀ c F H env, Sta K C F H σ env → (f c env).P (fun r e => ∀ v F' H', Same F F' → Sta K C F' H' σ e → ResOk K C F' H' σ e v r → Q v H') (XE C F) → R c H) : tT K C ta σ H R := by
  obtain ⟨F, env, S, h⟩ := h
  rw [P_bind] at h
  refine ⟨F, env, S, P_mono h (fun c e _ q => ?_) fun _ x => x⟩
  intro F1 H1 s1 S1
  exact w c F1 H1 e S1 (P_mono q (fun b e2 _ z v F2 H2 s2 S2 => z v F2 H2 (s1.trans s2) S2) fun _ x => x.mono s1)
theorem e_and (ha : VEj X C a ma) (hb : VEj X C (.BoolOp .And (b :: rest) pos) mb) : VEj X C (.BoolOp .And (a :: b :: rest) pos) (mAndV ma mb) := PE.weak (pe_and ha hb) fun σ H Q h =>
  tst_of (C := C) (Q := fun c H1 => if c = true then tM X.K C mb σ H1 Q else Q (.bl false) H1) (tM_bindT h fun c F H env S q => by
    cases c with
    | true => rw [if_pos rfl] at q ⊢; exact ⟨F, env, S, q⟩
    | false => rw [if_neg Bool.false_ne_true] at q ⊢; exact q _ F H (Same.refl F) S (.bl _))
theorem e_or (ha : VEj X C a ma) (hb : VEj X C (.BoolOp .Or (b :: rest) pos) mb) : VEj X C (.BoolOp .Or (a :: b :: rest) pos) (mOrV ma mb) := PE.weak (pe_or ha hb) fun σ H Q h =>
  tst_of (C := C) (Q := fun c H1 => if c = true then Q (.bl true) H1 else tM X.K C mb σ H1 Q) (tM_bindT h fun c F H env S q => by
    cases c with
    | true => rw [if_pos rfl] at q ⊢; exact q _ F H (Same.refl F) S (.bl _)
    | false => rw [if_neg Bool.false_ne_true] at q ⊢; exact ⟨F, env, S, q⟩)
/-- a if t else b -/
def mIf (t : MT) (m m2 : ME) : ME := fun env => (t env).bind fun c e => if c = true then m e else m2 e
theorem e_if {t : Expr} (ht : VTj X C t ta) (ha : VEj X C a ma) (hb : VEj X C b mb) : VEj X C (.IfExp t a b pos) (mIf ta ma mb) := PE.weak (pe_ifExp ht ha hb) fun σ H Q h => tM_bindT h fun c F H env S q => by
  cases c with
  | true => rw [if_pos rfl] at q ⊢; exact ⟨F, env, S, q⟩
  | false => rw [if_neg Bool.false_ne_true] at q ⊢; exact ⟨F, env, S, q⟩

/-! ### a < b < c -/
def chn (g : Da → Da → Option Sl) (mc : ME) (r2 : Sl) : Option Sl → VE → Out Sl
  | some (.val (.bool true)), e => (mOp mc e).bind fun r3 e3 => app2 g (look r2 e3) (look r3 e3) e3
  | some (.val (.bool false)), e => .ok (.val (.bool false)) e
  | _, _ => .no
def chain2 (f g : Da → Da → Option Sl) (mc : ME) (r2 : Sl) : Option Da → Option Da → VE → Out Sl
  | some x, some y, e => chn g mc r2 (f x y) e
  | _, _, _ => .no
def mChain (f g : Da → Da → Option Sl) (ma mb mc : ME) : ME := fun env => (mOp ma env).bind fun r1 e1 => (mOp mb e1).bind fun r2 e2 => chain2 f g mc r2 (look r1 e2) (look r2 e2) e2
theorem ow_chain {K : PySem.W.Frag} {f g : Da → Da → Option Sl} {r r' : R2} (w : Owes K r f) (w' : Owes K r' g) {σ : L2.St} {H : Hp} {Q : VK} (h : tM K C (mChain f g ma mb mc) σ H Q) :
    tChain r r' (tM K C ma) (tM K C mb) (tM K C mc) σ H Q := by
  obtain ⟨F, env, S, h⟩ := h
  unfold mChain at h
  rw [P_bind] at h
  refine op_run S (P_mono h (fun r1 e1 _ q => ?_) fun _ x => x)
  intro v1 F1 H1 s1 S1 R1 o1
  rw [P_bind] at q
  refine op_run S1 (P_mono q (fun r2 e2 _ q => ?_) fun _ x => x.mono s1)
  intro v2 F2 H2 s2 S2 R2 o2
  cases g1 : look r1 e2 with
  | none => rw [g1] at q; exact q.elim
  | some d1 =>
    cases g2 : look r2 e2 with
    | none => rw [g1, g2] at q; exact q.elim
    | some d2 =>
      rw [g1, g2] at q
      have q : (chn g mc r2 (f d1 d2) e2).P _ _ := q
      have D1 := S2.look (R1.keep (F' := F2) (H' := H2) o1 s2 (env' := e2)) g1
      have D2 := S2.look R2 g2
      cases g3 : f d1 d2 with
      | none => rw [g3] at q; exact q.elim
      | some res =>
        rw [g3] at q
        refine w C F2 H2 σ e2 v1 v2 d1 d2 res _ S2 D1 D2 g3 fun v F3 H3 s3 S3 R3 => ?_
        cases res with
        | val d =>
          cases d with
          | bool k =>
            cases R3
            refine ⟨k, rfl, ?_⟩
            cases k with
            | false =>
              rw [if_neg Bool.false_ne_true]
              exact q _ F3 H3 ((s1.trans s2).trans s3) S3 (.bl _)
            | true =>
              rw [if_pos rfl]
              have q : ((mOp mc e2).bind fun r3 e3 => app2 g (look r2 e3) (look r3 e3) e3).P _ _ := q
              rw [P_bind] at q
              refine op_run S3 (P_mono q (fun r4 e4 _ q => ?_) fun _ x => x.mono ((s1.trans s2).trans s3))
              intro v4 F4 H4 s4 S4 R4 o4
              cases g4 : look r2 e4 with
              | none => rw [g4] at q; exact q.elim
              | some d4 =>
                cases g5 : look r4 e4 with
                | none => rw [g4, g5] at q; exact q.elim
                | some d5 =>
                  rw [g4, g5, app2_some] at q
                  have D4 := S4.look (R2.keep (F' := F4) (H' := H4) o2 (s3.trans s4) (env' := e4)) g4
                  have D5 := S4.look R4 g5
                  cases g6 : g d4 d5 with
                  | none => rw [g6] at q; exact q.elim
                  | some res =>
                    rw [g6] at q
                    exact w' C F4 H4 σ e4 v2 v4 d4 d5 res Q S4 D4 D5 g6 fun v F5 H5 s5 S5 R5 => q v F5 H5 (((((s1.trans s2).trans s3).trans s4)).trans s5) S5 R5
          | _ => exact q.elim
        | _ => exact q.elim
theorem e_chain {op op' : CmpOp} {f g : Da → Da → Option Sl} (ho : OpD X (compareOp op) f) (ho' : OpD X (compareOp op') g) (ha : VEj X C a ma) (hb : VEj X C b mb) (hc : VEj X C c mc)
    (hm : lastMarks [op, op'] [b, c] = false := by with_unfolding_all rfl) : VEj X C (.Compare a [op, op'] [b, c] pos) (mChain f g ma mb mc) := by
  obtain ⟨r, hr, w⟩ := ho.ex
  obtain ⟨r', hr', w'⟩ := ho'.ex
  exact PE.weak (pe_chain hr hr' ha hb hc hm) fun σ H Q h => ow_chain w w' h
theorem t_chain {op op' : CmpOp} {f g : Da → Da → Option Sl} (ho : OpD X (compareOp op) f) (ho' : OpD X (compareOp op') g) (ha : VEj X C a ma) (hb : VEj X C b mb) (hc : VEj X C c mc)
    (hm : lastMarks [op, op'] [b, c] = false := by with_unfolding_all rfl) : VTj X C (.Compare a [op, op'] [b, c] pos) (mTB (mChain f g ma mb mc)) := by
  obtain ⟨r, hr, w⟩ := ho.ex
  obtain ⟨r', hr', w'⟩ := ho'.ex
  exact PT.weak (pt_chain hr hr' ha hb hc hm) fun σ H Q h => ow_chain w w' (tst_of h)
end
end VL
namespace VL
open PySem PySem.Spec PyProof.Rows L2

/-! ### argument lists -/
def mArgs : List ME → MA
  | [] => fun e => .ok [] e
  | m :: ms => fun env => (mOp m env).bind fun r e => (mArgs ms e).bind fun rs e2 => .ok (r :: rs) e2
def valsOf : List Sl → Option (List Da)
  | [] => some []
  | .val d :: r => match valsOf r with
    | some ds => some (d :: ds)
    | none => none
  | _ => none
def lookAll : List Sl → VE → Option (List Da)
  | [], _ => some []
  | r :: rs, e => match look r e, lookAll rs e with
    | some d, some ds => some (d :: ds)
    | _, _ => none
section
variable {K : PySem.W.Frag} {C : Cc} {F H : Hp} {σ : L2.St} {env : VE}
theorem res_vals : ∀ {vs : List V} {rs : List Sl} {ds : List Da}, ResAll K C F H σ env vs rs → valsOf rs = some ds → DzAll K F vs ds
  | [], [], ds, _, e => by cases e; exact .nil
  | v :: vs, r :: rs, ds, ⟨a, _, t⟩, e => by
    cases r with
    | val d =>
      unfold valsOf at e
      cases g : valsOf rs with
      | none => rw [g] at e; cases e
      | some es => rw [g] at e; cases e; exact .cons a (res_vals t g)
    | _ => cases e
  | [], _ :: _, _, h, _ => h.elim
  | _ :: _, [], _, h, _ => h.elim
theorem res_look (S : Sta K C F H σ env) : ∀ {vs : List V} {rs : List Sl} {ds : List Da}, ResAll K C F H σ env vs rs → lookAll rs env = some ds → DwAll K F H vs ds
  | [], [], ds, _, e => by cases e; trivial
  | v :: vs, r :: rs, ds, ⟨a, _, t⟩, e => by
    unfold lookAll at e
    cases g : look r env with
    | none => rw [g] at e; cases e
    | some d =>
      cases g2 : lookAll rs env with
      | none => rw [g, g2] at e; cases e
      | some es => rw [g, g2] at e; cases e; exact ⟨S.look a g, res_look S t g2⟩
  | [], _ :: _, _, h, _ => h.elim
  | _ :: _, [], _, h, _ => h.elim
end
section
variable {X : Cx} {C : Cc} {a b c e : Expr} {es : List Expr} {ma mb mc m : ME} {ms : List ME} {mA : MA} {pos : Pos}
theorem a_nil : VAj X C [] (mArgs []) := PA.weak pa_nil fun σ H Q ⟨F, env, S, q⟩ => q [] F H (Same.refl F) S trivial
theorem a_cons (ha : VEj X C e m) (hr : VAj X C es (mArgs ms)) (hs : starEach (e :: es) X.env = (false, eval e X.env) :: starEach es X.env := by rfl) : VAj X C (e :: es) (mArgs (m :: ms)) := by
  refine PA.weak (pa_cons ha hr hs) fun σ H Q ⟨F, env, S, h⟩ => ?_
  unfold mArgs at h
  rw [P_bind] at h
  refine op_run S (P_mono h (fun r e1 _ q => ?_) fun _ x => x)
  intro v F1 H1 s1 S1 R1 o1
  rw [P_bind] at q
  refine ⟨F1, e1, S1, P_mono q (fun rs e2 _ q => ?_) fun _ x => x.mono s1⟩
  intro vs F2 H2 s2 S2 RA
  exact q (v :: vs) F2 H2 (s1.trans s2) S2 ⟨R1.keep o1 s2, o1, RA⟩
/-! ### displays -/
def dispL : Option (List Da) → VE → Out Sl
  | some ds, e => if ds.length ≤ sizeLine then .ok (.own ds) e else .no
  | _, _ => .no
def dispT : Option (List Da) → VE → Out Sl
  | some ds, e => if ds.length ≤ sizeLine then .ok (.val (.tuple ds)) e else .no
  | _, _ => .no
def mList (mA : MA) : ME := fun env => (mA env).bind fun rs e => dispL (valsOf rs) e
def mTup (mA : MA) : ME := fun env => (mA env).bind fun rs e => dispT (valsOf rs) e
theorem e_lst (ha : VAj X C es mA) : VEj X C (.List es pos) (mList mA) := by
  refine PE.weak (pe_lst ha) fun σ H Q ⟨F, env, S, h⟩ => ?_
  unfold mList at h
  rw [P_bind] at h
  refine ⟨F, env, S, P_mono h (fun rs e1 _ q => ?_) fun _ x => x⟩
  intro vs F1 H1 s1 S1 RA
  cases g : valsOf rs with
  | none => rw [g] at q; exact q.elim
  | some ds =>
    rw [g] at q
    unfold dispL at q
    by_cases hl : ds.length ≤ sizeLine
    · simp only [hl, if_true] at q
      have z := res_vals RA g
      refine ⟨by rw [z.length]; exact hl, fun p hp => ?_⟩
      obtain ⟨n1, n2, n3⟩ := S1.new hp
      exact q _ F1 _ s1 (S1.alloc hp) ⟨p, _, rfl, upd_same, n1, n2, z, n3⟩
    · simp only [hl, if_false] at q; exact q.elim
theorem e_tup {x1 : Nat} (ha : VAj X C es mA) : VEj X C (.Tuple es x1 pos) (mTup mA) := by
  refine PE.weak (pe_tup ha) fun σ H Q ⟨F, env, S, h⟩ => ?_
  unfold mTup at h
  rw [P_bind] at h
  refine ⟨F, env, S, P_mono h (fun rs e1 _ q => ?_) fun _ x => x⟩
  intro vs F1 H1 s1 S1 RA
  cases g : valsOf rs with
  | none => rw [g] at q; exact q.elim
  | some ds =>
    rw [g] at q
    unfold dispT at q
    by_cases hl : ds.length ≤ sizeLine
    · simp only [hl, if_true] at q
      have z := res_vals RA g
      refine ⟨by rw [z.length]; exact hl, fun p hp => ?_⟩
      obtain ⟨S2, s2⟩ := S1.allocF (o := .tup vs) hp
      exact q _ _ _ (s1.trans s2) S2 (.tup upd_same (z.mono s2))
    · simp only [hl, if_false] at q; exact q.elim
def mNewK : ME := fun e => .ok (.odk []) e
def mNewT : ME := fun e => .ok (.odt []) e
theorem e_newK : VEj X C (.Dict [] [] pos) mNewK := PE.weak pe_dnewK fun σ H Q ⟨F, env, S, q⟩ p hp => by
  obtain ⟨n1, n2, n3⟩ := S.new hp
  exact q _ F _ (Same.refl F) (S.alloc hp) ⟨p, _, rfl, upd_same, n1, n2, .nil, n3⟩
theorem e_newT : VEj X C (.Dict [] [] pos) mNewT := PE.weak pe_dnewT fun σ H Q ⟨F, env, S, q⟩ p hp => by
  obtain ⟨n1, n2, n3⟩ := S.new hp
  exact q _ F _ (Same.refl F) (S.alloc hp) ⟨p, _, rfl, upd_same, n1, n2, .nil, n3⟩
/-! ### calls of built-ins -/
def OwesC (K : PySem.W.Frag) (r : List V → Hp → VK → Prop) (g : List Da → Option Sl) : Prop :=
  ∀ (C : Cc) (F H : Hp) (σ : L2.St) (env : VE) (vs : List V) (ds : List Da) (res : Sl) (Q : VK), Sta K C F H σ env → DwAll K F H vs ds → g ds = some res →
    (∀ v F' H', Same F F' → Sta K C F' H' σ env → ResOk K C F' H' σ env v res → Q v H') → r vs H Q
structure CaD (X : Cx) (fv : Value) (g : List Da → Option Sl) : Prop where
  ex : ∃ r, CallR X fv r ∧ OwesC X.K r g
def appA (g : List Da → Option Sl) : Option (List Da) → VE → Out Sl
  | some ds, e => ret (g ds) e
  | _, _ => .no
def mCallB (g : List Da → Option Sl) (mA : MA) : ME := fun env => (mA env).bind fun rs e => appA g (lookAll rs e) e
theorem ow_call {K : PySem.W.Frag} {g : List Da → Option Sl} {r : List V → Hp → VK → Prop} (w : OwesC K r g) {σ : L2.St} {H : Hp} {Q : VK} (h : tM K C (mCallB g mA) σ H Q) : tA K C mA σ H fun vs H1 => r vs H1 Q := by
  obtain ⟨F, env, S, h⟩ := h
  unfold mCallB at h
  rw [P_bind] at h
  refine ⟨F, env, S, P_mono h (fun rs e1 _ q => ?_) fun _ x => x⟩
  intro vs F1 H1 s1 S1 RA
  cases g1 : lookAll rs e1 with
  | none => rw [g1] at q; exact q.elim
  | some ds =>
    rw [g1] at q
    have q : (ret (g ds) e1).P _ _ := q
    cases g2 : g ds with
    | none => rw [g2] at q; exact q.elim
    | some res =>
      rw [g2] at q
      exact w C F1 H1 σ e1 vs ds res Q S1 (res_look S1 RA g1) g2 fun v F2 H2 s2 S2 R2 => q v F2 H2 (s1.trans s2) S2 R2
theorem e_callB {x : Str} {p : Pos} {id : String} {g : List Da → Option Sl} (hc : CaD X (.builtin id) g) (hg : Gl X x) (hm : X.mg x = none) (hv : bootBuiltins x = some (.builtin id)) (ha : VAj X C (e :: es) mA) (hn : x ≠ "__name__" := by decide) (hdb : (x == ("__debug__" : Str)) = false := by decide)
    (he : starEach (e :: es) X.env = (false, eval e X.env) :: starEach es X.env := by rfl) (hpl : (backTo pos (starEach es X.env)).any (·.1) = false := by rfl) : VEj X C (.Call (.Name x p) (e :: es) [] pos) (mCallB g mA) := by
  obtain ⟨r, hr, w⟩ := hc.ex
  exact PE.weak (pe_callB hr hg hm hv ha hn hdb he hpl) fun σ H Q h => ow_call w h
theorem e_callTy {x : Str} {p : Pos} {T : String} {g : List Da → Option Sl} (hc : CaD X (.type T) g) (hg : Gl X x) (hm : X.mg x = none) (hv : bootBuiltins x = some (.type T)) (ha : VAj X C (e :: es) mA) (hn : x ≠ "__name__" := by decide) (hdb : (x == ("__debug__" : Str)) = false := by decide)
    (he : starEach (e :: es) X.env = (false, eval e X.env) :: starEach es X.env := by rfl) (hpl : (backTo pos (starEach es X.env)).any (·.1) = false := by rfl) : VEj X C (.Call (.Name x p) (e :: es) [] pos) (mCallB g mA) := by
  obtain ⟨r, hr, w⟩ := hc.ex
  exact PE.weak (pe_callTy hr hg hm hv ha hn hdb he hpl) fun σ H Q h => ow_call w h
theorem CaD.or {fv : Value} {f g : List Da → Option Sl} (hf : CaD X fv f) (hg : CaD X fv g) : CaD X fv (fun xs => (f xs).or (g xs)) := by
  obtain ⟨r, hr, w⟩ := hf.ex
  obtain ⟨r', hr', w'⟩ := hg.ex
  refine ⟨_, hr.or hr', fun C F H σ env vs ds res Q S D e k => ?_⟩
  have e : (f ds).or (g ds) = some res := e
  cases q : f ds with
  | some z => rw [q] at e; cases e; exact .inl (w C F H σ env vs ds _ Q S D q k)
  | none => rw [q] at e; exact .inr (w' C F H σ env vs ds _ Q S D e k)
theorem dw1 {K : PySem.W.Frag} {F H : Hp} {vs : List V} {d : Da} (h : DwAll K F H vs [d]) : ∃ v, vs = [v] ∧ Dw K F H v d := by
  match vs, h with
  | [v], ⟨a, _⟩ => exact ⟨v, rfl, a⟩
theorem dw2 {K : PySem.W.Frag} {F H : Hp} {vs : List V} {d d' : Da} (h : DwAll K F H vs [d, d']) : ∃ v v', vs = [v, v'] ∧ Dw K F H v d ∧ Dw K F H v' d' := by
  match vs, h with
  | [v, v'], ⟨a, b, _⟩ => exact ⟨v, v', rfl, a, b⟩
/-- a rule for one argument -/
theorem CaD.one {fv : Value} {f : Da → Option Sl} {r : V → Hp → VK → Prop} (h : CallR X fv (fun xs H Q => ∃ x, xs = [x] ∧ r x H Q)) (w : Owes1 X.K r f) : CaD X fv (fun xs => match xs with
    | [d] => f d
    | _ => none) := by
  refine ⟨_, h, fun C F H σ env vs ds res Q S D e k => ?_⟩
  match ds, e with
  | [d], e =>
    obtain ⟨v, rfl, Dv⟩ := dw1 D
    exact ⟨v, rfl, w C F H σ env v d res Q S Dv e k⟩
def ar1 (f : Da → Option Sl) : List Da → Option Sl
  | [d] => f d
  | _ => none
theorem CaD.a1 {fv : Value} {f : Da → Option Sl} {r : List V → Hp → VK → Prop} (h : CallR X fv r) (w : Owes1 X.K (fun x H Q => r [x] H Q) f) : CaD X fv (ar1 f) := by
  refine ⟨_, h, fun C F H σ env vs ds res Q S D e k => ?_⟩
  match ds, e with
  | [d], e =>
    obtain ⟨v, rfl, Dv⟩ := dw1 D
    exact w C F H σ env v d res Q S Dv e k
def ar2 (f : Da → Da → Option Sl) : List Da → Option Sl
  | [d, d'] => f d d'
  | _ => none
theorem CaD.a2 {fv : Value} {f : Da → Da → Option Sl} {r : List V → Hp → VK → Prop} (h : CallR X fv r) (w : Owes X.K (fun x y H Q => r [x, y] H Q) f) : CaD X fv (ar2 f) := by
  refine ⟨_, h, fun C F H σ env vs ds res Q S D e k => ?_⟩
  match ds, e with
  | [d, d'], e =>
    obtain ⟨v, v', rfl, Dv, Dv'⟩ := dw2 D
    exact w C F H σ env v v' d d' res Q S Dv Dv' e k
theorem Owes1.flat {K : PySem.W.Frag} {r : V → Hp → VK → Prop} {f : Da → Option Sl} (h : ∀ (F H : Hp) (x : V) (dx : Da) (res : Sl) (Q : VK), Same F H → Dw K F H x dx → f dx = some res →
    (∀ v d, res = .val d → Dz K F v d → Q v H) → r x H Q) : Owes1 K r f := fun C F H σ env x dx res Q S Dx e k =>
  h F H x dx res Q S.sub Dx e fun v d ed z => k v F H (Same.refl F) S (by rw [ed]; exact z)
/-! len -/
def fLen : Da → Option Sl
  | .list xs => some (.val (.int xs.length))
  | .tuple xs => some (.val (.int xs.length))
  | .str z => if z.length ≤ sizeLine then some (.val (.int z.length)) else none
  | .dict _ => none
  | _ => none
theorem b_len : CaD X (.builtin "len") (ar1 fLen) := by
  refine CaD.a1 call_len (Owes1.flat fun F H x dx res Q s Dx e k => ?_)
  cases dx with
  | list xs =>
    obtain ⟨p, vs, rfl, h1, z1⟩ := Dx.lst s
    exact ⟨.ref p, vs.length, rfl, .inl ⟨vs, .of h1, rfl⟩, k _ _ (by rw [z1.length]; exact (Option.some.inj e).symm) (.int _)⟩
  | tuple xs =>
    obtain ⟨p, vs, rfl, h1, z1⟩ := Dx.tup
    exact ⟨.ref p, vs.length, rfl, .inr ⟨vs, .of (s _ _ h1), rfl⟩, k _ _ (by rw [z1.length]; exact (Option.some.inj e).symm) (.int _)⟩
  | str z =>
    obtain ⟨hz, e⟩ := ite_some e
    have ex := Dx.str
    subst ex
    exact ⟨.str z, z.length, rfl, ⟨hz, rfl⟩, k _ _ e.symm (.int _)⟩
  | _ => cases e
/-! abs, int, min, max of two -/
def fAbs : Da → Option Sl
  | .int i => some (.val (.int (if i < 0 then -i else i)))
  | _ => none
theorem b_abs : CaD X (.builtin "abs") (ar1 fAbs) := by
  refine CaD.a1 call_abs (Owes1.flat fun F H x dx res Q s Dx e k => ?_)
  cases dx with
  | int i => have ex := Dx.int; subst ex; exact ⟨i, rfl, k _ _ (Option.some.inj e).symm (.int _)⟩
  | _ => cases e
def fInt : Da → Option Sl
  | .int i => some (.val (.int i))
  | .bool b => some (.val (.int (if b then 1 else 0)))
  | _ => none
theorem b_int : CaD X (.type "int") (ar1 fInt) := by
  refine CaD.a1 call_int1 (Owes1.flat fun F H x dx res Q s Dx e k => ?_)
  cases dx with
  | int i => have ex := Dx.int; subst ex; exact .inl ⟨i, rfl, k _ _ (Option.some.inj e).symm (.int _)⟩
  | bool i => have ex := Dx.bl; subst ex; exact .inr ⟨i, rfl, k _ _ (Option.some.inj e).symm (.int _)⟩
  | _ => cases e
abbrev fMin2 := iI0 fun i j => if j < i then j else i
abbrev fMax2 := iI0 fun i j => if j > i then j else i
theorem b_min2 (hc : X.calm = true) : CaD X (.builtin "min") (ar2 fMin2) := by
  refine CaD.a2 (call_min2 hc) (Owes.flat fun F H x y dx dy res Q s Dx Dy e k => ?_)
  cases dx with
  | int i =>
    cases dy with
    | int j => have ex := Dx.int; have ey := Dy.int; subst ex; subst ey; exact ⟨i, j, rfl, k _ _ (Option.some.inj e).symm (.int _)⟩
    | _ => cases e
  | _ => cases e
theorem b_max2 (hc : X.calm = true) : CaD X (.builtin "max") (ar2 fMax2) := by
  refine CaD.a2 (call_max2 hc) (Owes.flat fun F H x y dx dy res Q s Dx Dy e k => ?_)
  cases dx with
  | int i =>
    cases dy with
    | int j => have ex := Dx.int; have ey := Dy.int; subst ex; subst ey; exact ⟨i, j, rfl, k _ _ (Option.some.inj e).symm (.int _)⟩
    | _ => cases e
  | _ => cases e
/-! list(..), tuple(..) of lists and tuples -/
def fList : Da → Option Sl
  | .list xs => some (.own xs)
  | .tuple xs => some (.own xs)
  | _ => none
theorem b_list : CaD X (.type "list") (ar1 fList) := by
  refine CaD.a1 call_list_of fun C F H σ env x dx res Q S Dx e k => ?_
  cases dx with
  | list xs =>
    obtain ⟨p, vs, rfl, h1, z1⟩ := Dx.lst S.sub
    cases e
    refine ⟨p, vs, rfl, .inl (.of h1), fun r hr => ?_⟩
    obtain ⟨n1, n2, n3⟩ := S.new hr
    exact k _ F _ (Same.refl F) (S.alloc hr) ⟨r, _, rfl, upd_same, n1, n2, z1, n3⟩
  | tuple xs =>
    obtain ⟨p, vs, rfl, h1, z1⟩ := Dx.tup
    cases e
    refine ⟨p, vs, rfl, .inr (.of (S.sub _ _ h1)), fun r hr => ?_⟩
    obtain ⟨n1, n2, n3⟩ := S.new hr
    exact k _ F _ (Same.refl F) (S.alloc hr) ⟨r, _, rfl, upd_same, n1, n2, z1, n3⟩
  | _ => cases e
def fTuple : Da → Option Sl
  | .list xs => some (.val (.tuple xs))
  | .tuple xs => some (.val (.tuple xs))
  | _ => none
theorem b_tuple : CaD X (.type "tuple") (ar1 fTuple) := by
  refine CaD.a1 call_tuple_of fun C F H σ env x dx res Q S Dx e k => ?_
  cases dx with
  | list xs =>
    obtain ⟨p, vs, rfl, h1, z1⟩ := Dx.lst S.sub
    cases e
    refine ⟨p, vs, rfl, .inl ⟨.of h1, fun r hr => ?_⟩⟩
    obtain ⟨S2, s2⟩ := S.allocF (o := .tup vs) hr
    exact k _ _ _ s2 S2 (.tup upd_same (z1.mono s2))
  | tuple xs =>
    obtain ⟨p, vs, rfl, h1, z1⟩ := Dx.tup
    cases e
    exact ⟨p, vs, rfl, .inr ⟨.of (S.sub _ _ h1), k _ F H (Same.refl F) S (.tup h1 z1)⟩⟩
  | _ => cases e
/-! sum, min, max, any, all of a list -/
def intsOf : List Da → Option (List Int)
  | [] => some []
  | .int i :: r => match intsOf r with
    | some ns => some (i :: ns)
    | none => none
  | _ => none
theorem intsOf_eq : ∀ {ds : List Da} {ns : List Int}, intsOf ds = some ns → ds = ns.map PyData.int
  | [], ns, e => by cases e; rfl
  | .int i :: r, ns, e => by
    unfold intsOf at e
    cases g : intsOf r with
    | none => rw [g] at e; cases e
    | some ms => rw [g] at e; cases e; rw [intsOf_eq g]; rfl
  | .none :: _, _, e => by cases e
  | .bool _ :: _, _, e => by cases e
  | .str _ :: _, _, e => by cases e
  | .list _ :: _, _, e => by cases e
  | .tuple _ :: _, _, e => by cases e
  | .dict _ :: _, _, e => by cases e
theorem intsOf_map (ns : List Int) : intsOf (ns.map PyData.int) = some ns := by
  induction ns with
  | nil => rfl
  | cons n r ih => rw [List.map_cons, intsOf, ih]
def boolsOf : List Da → Option (List Bool)
  | [] => some []
  | .bool i :: r => match boolsOf r with
    | some ns => some (i :: ns)
    | none => none
  | _ => none
theorem boolsOf_eq : ∀ {ds : List Da} {ns : List Bool}, boolsOf ds = some ns → ds = ns.map PyData.bool
  | [], ns, e => by cases e; rfl
  | .bool i :: r, ns, e => by
    unfold boolsOf at e
    cases g : boolsOf r with
    | none => rw [g] at e; cases e
    | some ms => rw [g] at e; cases e; rw [boolsOf_eq g]; rfl
  | .none :: _, _, e => by cases e
  | .int _ :: _, _, e => by cases e
  | .str _ :: _, _, e => by cases e
  | .list _ :: _, _, e => by cases e
  | .tuple _ :: _, _, e => by cases e
  | .dict _ :: _, _, e => by cases e
theorem boolsOf_map (ns : List Bool) : boolsOf (ns.map PyData.bool) = some ns := by
  induction ns with
  | nil => rfl
  | cons n r ih => rw [List.map_cons, boolsOf, ih]
theorem dw_ints {K : PySem.W.Frag} {F H : Hp} {x : V} {xs : List Da} {ns : List Int} (s : Same F H) (Dx : Dw K F H x (.list xs)) (e : intsOf xs = some ns) : ∃ p, x = .ref p ∧ H p = some (.lst (ns.map V.int)) := by
  obtain ⟨p, vs, rfl, h1, z1⟩ := Dx.lst s
  rw [intsOf_eq e] at z1
  exact ⟨p, rfl, by rw [← z1.ints]; exact h1⟩
theorem dw_bools {K : PySem.W.Frag} {F H : Hp} {x : V} {xs : List Da} {ns : List Bool} (s : Same F H) (Dx : Dw K F H x (.list xs)) (e : boolsOf xs = some ns) : ∃ p, x = .ref p ∧ H p = some (.lst (ns.map V.bl)) := by
  obtain ⟨p, vs, rfl, h1, z1⟩ := Dx.lst s
  rw [boolsOf_eq e] at z1
  exact ⟨p, rfl, by rw [← z1.bools]; exact h1⟩
def fSum : Da → Option Sl
  | .list xs => match intsOf xs with
    | some ns => some (.val (.int ns.sum))
    | none => none
  | _ => none
theorem b_sum (hc : X.calm = true) : CaD X (.builtin "sum") (ar1 fSum) := by
  refine CaD.a1 (cr_sum hc) (Owes1.flat fun F H x dx res Q s Dx e k => ?_)
  cases dx with
  | list xs =>
    have e : (match intsOf xs with
      | some ns => some (Sl.val (.int ns.sum))
      | none => none) = some res := e
    cases g : intsOf xs with
    | none => rw [g] at e; cases e
    | some ns =>
      rw [g] at e
      obtain ⟨p, rfl, h1⟩ := dw_ints s Dx g
      exact ⟨p, ns, rfl, .of h1, k _ _ (Option.some.inj e).symm (.int _)⟩
  | _ => cases e
def fAny : Da → Option Sl
  | .list xs => match boolsOf xs with
    | some ns => some (.val (.bool (ns.any id)))
    | none => none
  | _ => none
theorem b_any (hc : X.calm = true) : CaD X (.builtin "any") (ar1 fAny) := by
  refine CaD.a1 (cr_any hc) (Owes1.flat fun F H x dx res Q s Dx e k => ?_)
  cases dx with
  | list xs =>
    have e : (match boolsOf xs with
      | some ns => some (Sl.val (.bool (ns.any id)))
      | none => none) = some res := e
    cases g : boolsOf xs with
    | none => rw [g] at e; cases e
    | some ns =>
      rw [g] at e
      obtain ⟨p, rfl, h1⟩ := dw_bools s Dx g
      exact ⟨p, ns, rfl, .of h1, k _ _ (Option.some.inj e).symm (.bl _)⟩
  | _ => cases e
def fAll : Da → Option Sl
  | .list xs => match boolsOf xs with
    | some ns => some (.val (.bool (ns.all id)))
    | none => none
  | _ => none
theorem b_all (hc : X.calm = true) : CaD X (.builtin "all") (ar1 fAll) := by
  refine CaD.a1 (cr_all hc) (Owes1.flat fun F H x dx res Q s Dx e k => ?_)
  cases dx with
  | list xs =>
    have e : (match boolsOf xs with
      | some ns => some (Sl.val (.bool (ns.all id)))
      | none => none) = some res := e
    cases g : boolsOf xs with
    | none => rw [g] at e; cases e
    | some ns =>
      rw [g] at e
      obtain ⟨p, rfl, h1⟩ := dw_bools s Dx g
      exact ⟨p, ns, rfl, .of h1, k _ _ (Option.some.inj e).symm (.bl _)⟩
  | _ => cases e
/-! greatest and least of a list of ints -/
def maxI : Int → List Int → Int
  | m, [] => m
  | m, x :: r => maxI (if m < x then x else m) r
def minI : Int → List Int → Int
  | m, [] => m
  | m, x :: r => minI (if x < m then x else m) r
theorem maxI_ge : ∀ (l : List Int) (m : Int), m ≤ maxI m l ∧ ∀ y ∈ l, y ≤ maxI m l
  | [], m => ⟨Int.le_refl _, fun _ h => nomatch h⟩
  | x :: r, m => by
    obtain ⟨h1, h2⟩ := maxI_ge r (if m < x then x else m)
    have h3 : m ≤ (if m < x then x else m) ∧ x ≤ (if m < x then x else m) := by split <;> omega
    refine ⟨Int.le_trans h3.1 h1, fun y hy => ?_⟩
    rcases List.mem_cons.mp hy with rfl | hy
    · exact Int.le_trans h3.2 h1
    · exact h2 y hy
theorem maxI_mem : ∀ (l : List Int) (m : Int), maxI m l = m ∨ maxI m l ∈ l
  | [], m => .inl rfl
  | x :: r, m => by
    rcases maxI_mem r (if m < x then x else m) with h | h
    · by_cases hx : m < x
      · simp only [hx, if_true] at h
        exact .inr (by show maxI (if m < x then x else m) r ∈ x :: r; simp only [hx, if_true]; rw [h]; exact List.mem_cons_self)
      · simp only [hx, if_false] at h
        exact .inl (by show maxI (if m < x then x else m) r = m; simp only [hx, if_false]; exact h)
    · exact .inr (List.mem_cons_of_mem _ h)
theorem minI_le : ∀ (l : List Int) (m : Int), minI m l ≤ m ∧ ∀ y ∈ l, minI m l ≤ y
  | [], m => ⟨Int.le_refl _, fun _ h => nomatch h⟩
  | x :: r, m => by
    obtain ⟨h1, h2⟩ := minI_le r (if x < m then x else m)
    have h3 : (if x < m then x else m) ≤ m ∧ (if x < m then x else m) ≤ x := by split <;> omega
    refine ⟨Int.le_trans h1 h3.1, fun y hy => ?_⟩
    rcases List.mem_cons.mp hy with rfl | hy
    · exact Int.le_trans h1 h3.2
    · exact h2 y hy
theorem minI_mem : ∀ (l : List Int) (m : Int), minI m l = m ∨ minI m l ∈ l
  | [], m => .inl rfl
  | x :: r, m => by
    rcases minI_mem r (if x < m then x else m) with h | h
    · by_cases hx : x < m
      · simp only [hx, if_true] at h
        exact .inr (by show minI (if x < m then x else m) r ∈ x :: r; simp only [hx, if_true]; rw [h]; exact List.mem_cons_self)
      · simp only [hx, if_false] at h
        exact .inl (by show minI (if x < m then x else m) r = m; simp only [hx, if_false]; exact h)
    · exact .inr (List.mem_cons_of_mem _ h)
theorem maxI_one {m x : Int} {l : List Int} (h : m ∈ x :: l) (g : ∀ y ∈ x :: l, y ≤ m) : m = maxI x l := by
  obtain ⟨h1, h2⟩ := maxI_ge l x
  have a : maxI x l ≤ m := by
    rcases maxI_mem l x with e | e
    · rw [e]; exact g _ List.mem_cons_self
    · exact g _ (List.mem_cons_of_mem _ e)
  have b : m ≤ maxI x l := by
    rcases List.mem_cons.mp h with e | e
    · rw [e]; exact h1
    · exact h2 _ e
  omega
theorem minI_one {m x : Int} {l : List Int} (h : m ∈ x :: l) (g : ∀ y ∈ x :: l, m ≤ y) : m = minI x l := by
  obtain ⟨h1, h2⟩ := minI_le l x
  have a : m ≤ minI x l := by
    rcases minI_mem l x with e | e
    · rw [e]; exact g _ List.mem_cons_self
    · exact g _ (List.mem_cons_of_mem _ e)
  have b : minI x l ≤ m := by
    rcases List.mem_cons.mp h with e | e
    · rw [e]; exact h1
    · exact h2 _ e
  omega
def fMax : Da → Option Sl
  | .list xs => match intsOf xs with
    | some (n :: ns) => some (.val (.int (maxI n ns)))
    | _ => none
  | _ => none
def fMin : Da → Option Sl
  | .list xs => match intsOf xs with
    | some (n :: ns) => some (.val (.int (minI n ns)))
    | _ => none
  | _ => none
theorem b_max (hc : X.calm = true) : CaD X (.builtin "max") (ar1 fMax) := by
  refine CaD.a1 (cr_max hc) (Owes1.flat fun F H x dx res Q s Dx e k => ?_)
  cases dx with
  | list xs =>
    unfold fMax at e
    cases g : intsOf xs with
    | none => simp only [g] at e; cases e
    | some ns =>
      cases ns with
      | nil => simp only [g] at e; cases e
      | cons n ns =>
        simp only [g] at e
        obtain ⟨p, rfl, h1⟩ := dw_ints s Dx g
        exact ⟨p, n :: ns, rfl, .of h1, Nat.succ_pos _, fun m hm hg => k _ _ (by rw [maxI_one hm hg]; exact (Option.some.inj e).symm) (.int _)⟩
  | _ => cases e
theorem b_min (hc : X.calm = true) : CaD X (.builtin "min") (ar1 fMin) := by
  refine CaD.a1 (cr_min hc) (Owes1.flat fun F H x dx res Q s Dx e k => ?_)
  cases dx with
  | list xs =>
    unfold fMin at e
    cases g : intsOf xs with
    | none => simp only [g] at e; cases e
    | some ns =>
      cases ns with
      | nil => simp only [g] at e; cases e
      | cons n ns =>
        simp only [g] at e
        obtain ⟨p, rfl, h1⟩ := dw_ints s Dx g
        exact ⟨p, n :: ns, rfl, .of h1, Nat.succ_pos _, fun m hm hg => k _ _ (by rw [minI_one hm hg]; exact (Option.some.inj e).symm) (.int _)⟩
  | _ => cases e
/-! list(range(..)), tuple(range(..)) -/
def rgD (a b : Int) : List Da := (List.range (b - a).toNat).map fun i => PyData.int (a + (i : Nat))
theorem dz_rg {K : PySem.W.Frag} {F : Hp} (a b : Int) : DzAll K F (rgV a b) (rgD a b) := by
  unfold rgV rgD
  induction (List.range (b - a).toNat) with
  | nil => exact .nil
  | cons n r ih => exact .cons (.int _) ih
instance (a b : Int) : Decidable (RgOk a b) := by unfold RgOk; infer_instance
def fRgL (a b : Int) : Option Sl := if RgOk a b then some (.own (rgD a b)) else none
def fRgT (a b : Int) : Option Sl := if RgOk a b then some (.val (.tuple (rgD a b))) else none
def rg1 (f : Int → Int → Option Sl) : Da → Option Sl
  | .int n => f 0 n
  | _ => none
def rg2 (f : Int → Int → Option Sl) : Da → Da → Option Sl
  | .int a, .int b => f a b
  | _, _ => none
def kRg (mk : List V → HO) (x : Int) (y : Int) : Hp → VK → Prop := fun H1 Q => RgOk x y ∧ ∀ q, H1 q = none → Q (.ref q) (upd H1 q (mk (rgV x y)))
theorem rgL_ok {K : PySem.W.Frag} {F H : Hp} {σ : L2.St} {env : VE} {a b : Int} {res : Sl} {Q : VK} (S : Sta K C F H σ env) (e : fRgL a b = some res) (k : ∀ v F' H', Same F F' → Sta K C F' H' σ env → ResOk K C F' H' σ env v res → Q v H') : kRg .lst a b H Q := by
  obtain ⟨ok, e⟩ := ite_some e
  subst e
  refine ⟨ok, fun r hr => ?_⟩
  obtain ⟨n1, n2, n3⟩ := S.new hr
  exact k _ F _ (Same.refl F) (S.alloc hr) ⟨r, _, rfl, upd_same, n1, n2, dz_rg a b, n3⟩
theorem rgT_ok {K : PySem.W.Frag} {F H : Hp} {σ : L2.St} {env : VE} {a b : Int} {res : Sl} {Q : VK} (S : Sta K C F H σ env) (e : fRgT a b = some res) (k : ∀ v F' H', Same F F' → Sta K C F' H' σ env → ResOk K C F' H' σ env v res → Q v H') : kRg .tup a b H Q := by
  obtain ⟨ok, e⟩ := ite_some e
  subst e
  refine ⟨ok, fun r hr => ?_⟩
  obtain ⟨S2, s2⟩ := S.allocF (o := .tup (rgV a b)) hr
  exact k _ _ _ s2 S2 (.tup upd_same (dz_rg a b))
theorem rg1_w {K : PySem.W.Frag} {f : Int → Int → Option Sl} {G : Int → Int → Hp → VK → Prop} (w : ∀ {F H σ env a b res Q}, Sta K C F H σ env → f a b = some res → (∀ v F' H', Same F F' → Sta K C F' H' σ env → ResOk K C F' H' σ env v res → Q v H') → G a b H Q)
    {σ : L2.St} {H : Hp} {Q : VK} (h : tM K C (mUn (rg1 f) ma) σ H Q) : tRg1 (tM K C ma) σ H fun a b H1 => G a b H1 Q := by
  obtain ⟨F, env, S, h⟩ := h
  unfold mUn at h
  rw [P_bind] at h
  refine op_run S (P_mono h (fun r1 e1 _ q => ?_) fun _ x => x)
  intro v1 F1 H1 s1 S1 R1 o1
  cases g1 : look r1 e1 with
  | none => rw [g1] at q; exact q.elim
  | some d1 =>
    rw [g1, app1_some] at q
    have D1 := S1.look R1 g1
    cases d1 with
    | int n =>
      have q : (ret (f 0 n) e1).P _ _ := q
      cases g2 : f 0 n with
      | none => rw [g2] at q; exact q.elim
      | some res =>
        rw [g2] at q
        exact ⟨n, D1.int, w S1 g2 fun v F2 H2 s2 S2 R2 => q v F2 H2 (s1.trans s2) S2 R2⟩
    | _ => exact q.elim
theorem rg2_w {K : PySem.W.Frag} {f : Int → Int → Option Sl} {G : Int → Int → Hp → VK → Prop} (w : ∀ {C F H σ env a b res Q}, Sta K C F H σ env → f a b = some res → (∀ v F' H', Same F F' → Sta K C F' H' σ env → ResOk K C F' H' σ env v res → Q v H') → G a b H Q)
    {σ : L2.St} {H : Hp} {Q : VK} (h : tM K C (mBin (rg2 f) ma mb) σ H Q) : tRg2 (tM K C ma) (tM K C mb) σ H fun a b H1 => G a b H1 Q := by
  refine ow_bin (r := fun x y H2 Q => ∃ i j, x = .int i ∧ y = .int j ∧ G i j H2 Q) (fun C' F H σ env x y dx dy res Q S Dx Dy e k => ?_) h
  cases dx with
  | int i =>
    cases dy with
    | int j => exact ⟨i, j, Dx.int, Dy.int, w S e k⟩
    | _ => cases e
  | _ => cases e
theorem e_listRg2 {p p2 pos2 : Pos} (hc : X.calm = true) (hg : Gl X "list") (hm : X.mg "list" = none) (hg2 : Gl X "range") (hm2 : X.mg "range" = none) (ha : VEj X C a ma) (hb : VEj X C b mb) (na : starEach [a, b] X.env = (false, eval a X.env) :: starEach [b] X.env := by rfl)
    (nb : starEach [b] X.env = (false, eval b X.env) :: starEach [] X.env := by rfl) (np : (backTo pos2 (starEach [b] X.env)).any (·.1) = false := by rfl)
    (nc : starEach [.Call (.Name "range" p2) [a, b] [] pos2] X.env = (false, eval (.Call (.Name "range" p2) [a, b] [] pos2) X.env) :: starEach [] X.env := by rfl) : VEj X C (.Call (.Name "list" p) [.Call (.Name "range" p2) [a, b] [] pos2] [] pos) (mBin (rg2 fRgL) ma mb) :=
  PE.weak (pe_listRg hc hg hm (prg_2 hg2 hm2 ha hb na nb np) nc) fun σ H Q h => rg2_w (G := kRg .lst) (fun S e k => rgL_ok S e k) h
theorem e_tupRg2 {p p2 pos2 : Pos} (hc : X.calm = true) (hg : Gl X "tuple") (hm : X.mg "tuple" = none) (hg2 : Gl X "range") (hm2 : X.mg "range" = none) (ha : VEj X C a ma) (hb : VEj X C b mb) (na : starEach [a, b] X.env = (false, eval a X.env) :: starEach [b] X.env := by rfl)
    (nb : starEach [b] X.env = (false, eval b X.env) :: starEach [] X.env := by rfl) (np : (backTo pos2 (starEach [b] X.env)).any (·.1) = false := by rfl)
    (nc : starEach [.Call (.Name "range" p2) [a, b] [] pos2] X.env = (false, eval (.Call (.Name "range" p2) [a, b] [] pos2) X.env) :: starEach [] X.env := by rfl) : VEj X C (.Call (.Name "tuple" p) [.Call (.Name "range" p2) [a, b] [] pos2] [] pos) (mBin (rg2 fRgT) ma mb) :=
  PE.weak (pe_tupRg hc hg hm (prg_2 hg2 hm2 ha hb na nb np) nc) fun σ H Q h => rg2_w (G := kRg .tup) (fun S e k => rgT_ok S e k) h
theorem e_listRg1 {p p2 pos2 : Pos} (hc : X.calm = true) (hg : Gl X "list") (hm : X.mg "list" = none) (hg2 : Gl X "range") (hm2 : X.mg "range" = none) (ha : VEj X C a ma) (na : starEach [a] X.env = (false, eval a X.env) :: starEach [] X.env := by rfl)
    (nb : starEach [.Call (.Name "range" p2) [a] [] pos2] X.env = (false, eval (.Call (.Name "range" p2) [a] [] pos2) X.env) :: starEach [] X.env := by rfl) : VEj X C (.Call (.Name "list" p) [.Call (.Name "range" p2) [a] [] pos2] [] pos) (mUn (rg1 fRgL) ma) :=
  PE.weak (pe_listRg hc hg hm (prg_1 hg2 hm2 ha na) nb) fun σ H Q h => rg1_w (G := kRg .lst) (fun S e k => rgL_ok S e k) h
theorem e_tupRg1 {p p2 pos2 : Pos} (hc : X.calm = true) (hg : Gl X "tuple") (hm : X.mg "tuple" = none) (hg2 : Gl X "range") (hm2 : X.mg "range" = none) (ha : VEj X C a ma) (na : starEach [a] X.env = (false, eval a X.env) :: starEach [] X.env := by rfl)
    (nb : starEach [.Call (.Name "range" p2) [a] [] pos2] X.env = (false, eval (.Call (.Name "range" p2) [a] [] pos2) X.env) :: starEach [] X.env := by rfl) : VEj X C (.Call (.Name "tuple" p) [.Call (.Name "range" p2) [a] [] pos2] [] pos) (mUn (rg1 fRgT) ma) :=
  PE.weak (pe_tupRg hc hg hm (prg_1 hg2 hm2 ha na) nb) fun σ H Q h => rg1_w (G := kRg .tup) (fun S e k => rgT_ok S e k) h
end
end VL
namespace VL
open PySem PySem.Spec PyProof.Rows L2
section
variable {X : Cx} {C : Cc} {a b c e : Expr} {es : List Expr} {ma mb mc m : ME} {ms : List ME} {mA : MA} {pos : Pos}
/-! ### a[i] -/
def fIx : Da → Da → Option Sl
  | .list xs, .int i => match atI xs i with
    | some d => some (.val d)
    | none => none
  | .tuple xs, .int i => match atI xs i with
    | some d => some (.val d)
    | none => none
  | .str z, .int i => if z.length ≤ sizeLine then match atI z.cps.toList i with
    | some c => some (.val (.str ⟨#[c]⟩))
    | none => none else none
  | _, _ => none
theorem atI_dz {K : PySem.W.Frag} {F : Hp} {vs : List V} {ds : List Da} {i : Int} {d : Da} (z : DzAll K F vs ds) (h : atI ds i = some d) : ∃ v, atI vs i = some v ∧ Dz K F v d := by
  unfold atI at h ⊢
  rw [z.length]
  cases g : ixN ds.length i with
  | none => rw [g] at h; cases h
  | some j =>
    rw [g] at h
    exact z.get h
theorem owes_ix (K : PySem.W.Frag) : Owes K (rIx K) fIx := by
  refine Owes.flat fun F H x y dx dy res Q s Dx Dy e k => ?_
  cases dx with
  | list xs =>
    cases dy with
    | int i =>
      have ey := Dy.int
      subst ey
      unfold fIx at e
      cases g : atI xs i with
      | none => simp only [g] at e; cases e
      | some d =>
        simp only [g] at e
        obtain ⟨p, vs, rfl, h1, z1⟩ := Dx.lst s
        obtain ⟨v, g2, zv⟩ := atI_dz z1 g
        exact .inl ⟨p, vs, i, v, rfl, rfl, .of h1, g2, k _ _ (Option.some.inj e).symm zv⟩
    | _ => cases e
  | tuple xs =>
    cases dy with
    | int i =>
      have ey := Dy.int
      subst ey
      unfold fIx at e
      cases g : atI xs i with
      | none => simp only [g] at e; cases e
      | some d =>
        simp only [g] at e
        obtain ⟨p, vs, rfl, h1, z1⟩ := Dx.tup
        obtain ⟨v, g2, zv⟩ := atI_dz z1 g
        exact .inr (.inl ⟨p, vs, i, v, rfl, rfl, .of (s _ _ h1), g2, k _ _ (Option.some.inj e).symm zv⟩)
    | _ => cases e
  | str z =>
    cases dy with
    | int i =>
      have ey := Dy.int
      subst ey
      have ex := Dx.str
      subst ex
      unfold fIx at e
      by_cases hz : z.length ≤ sizeLine
      · simp only [hz, if_true] at e
        cases g : atI z.cps.toList i with
        | none => simp only [g] at e; cases e
        | some c =>
          simp only [g] at e
          exact .inr (.inr ⟨z, i, c, rfl, rfl, hz, g, k _ _ (Option.some.inj e).symm (.str _)⟩)
      · simp only [hz, if_false] at e
        cases e
    | _ => cases e
  | _ => cases e
theorem e_ix (ha : VEj X C a ma) (hb : VEj X C b mb) (hs : PlainIx b := by exact fun _ _ => rfl) : VEj X C (.Subscript a b pos) (mBin fIx ma mb) := PE.weak (pe_ix ix_seq ha hb hs) fun σ H Q h => ow_bin (owes_ix X.K) h
/-! ### a dict's item, in a dict -/
def keysD : List Da → Option (List Key)
  | [] => some []
  | .int i :: r => match keysD r with
    | some ks => some (.inl i :: ks)
    | none => none
  | .str i :: r => match keysD r with
    | some ks => some (.inr i :: ks)
    | none => none
  | _ => none
theorem keysD_eq : ∀ {ds : List Da} {ks : List Key}, keysD ds = some ks → ds = ks.map keyD
  | [], _, e => by cases e; rfl
  | .int i :: r, ks, e => by
    unfold keysD at e
    cases g : keysD r with
    | none => rw [g] at e; cases e
    | some ms => rw [g] at e; cases e; rw [keysD_eq g]; rfl
  | .str i :: r, ks, e => by
    unfold keysD at e
    cases g : keysD r with
    | none => rw [g] at e; cases e
    | some ms => rw [g] at e; cases e; rw [keysD_eq g]; rfl
  | .none :: _, _, e => by cases e
  | .bool _ :: _, _, e => by cases e
  | .list _ :: _, _, e => by cases e
  | .tuple _ :: _, _, e => by cases e
  | .dict _ :: _, _, e => by cases e
theorem keysD_map (ks : List Key) : keysD (ks.map keyD) = some ks := by
  induction ks with
  | nil => rfl
  | cons k r ih =>
    cases k with
    | inl i => rw [List.map_cons]; show keysD (.int i :: _) = _; rw [keysD, ih]
    | inr i => rw [List.map_cons]; show keysD (.str i :: _) = _; rw [keysD, ih]
theorem keyD_inj : ∀ {a b : Key}, keyD a = keyD b → a = b
  | .inl _, .inl _, e => by cases e; rfl
  | .inr _, .inr _, e => by cases e; rfl
  | .inl _, .inr _, e => by cases e
  | .inr _, .inl _, e => by cases e
theorem keysD_inj {a b : List Key} (h : a.map keyD = b.map keyD) : a = b := by
  have e := keysD_map a
  rw [h, keysD_map] at e
  exact (Option.some.inj e).symm
/-! ### dicts: their data by kinds of keys -/
inductive DV where
  | k (kvs : List (Key × Da))
  | t (kvs : List (List Key × Da))
def keyOf1 : Da → Option Key
  | .int i => some (.inl i)
  | .str x => some (.inr x)
  | _ => none
def keyOfT : Da → Option (List Key)
  | .tuple ds => keysD ds
  | _ => none
def parseW {κ : Type} (f : Da → Option κ) : List (Da × Da) → Option (List (κ × Da))
  | [] => some []
  | (k, d) :: r => match f k, parseW f r with
    | some k, some r => some ((k, d) :: r)
    | _, _ => none
def ofD : List (Da × Da) → Option DV
  | [] => none
  | (.tuple ks, d) :: r => match parseW keyOfT ((.tuple ks, d) :: r) with
    | some kvs => some (.t kvs)
    | none => none
  | l => match parseW keyOf1 l with
    | some kvs => some (.k kvs)
    | none => none
theorem keyOf1_eq (k : Key) : keyOf1 (keyD k) = some k := by cases k <;> rfl
theorem keyOf1_of {d : Da} {k : Key} (h : keyOf1 d = some k) : d = keyD k := by
  cases d <;> first | (cases h; rfl) | cases h
theorem keyOfT_of {d : Da} {k : List Key} (h : keyOfT d = some k) : d = .tuple (k.map keyD) := by
  cases d with
  | tuple ds => rw [keysD_eq (ds := ds) h]
  | _ => cases h
theorem parse_k : ∀ ds : List (Key × Da), parseW keyOf1 (kdK ds) = some ds
  | [] => rfl
  | (k, d) :: r => by
    have ih := parse_k r
    unfold kdK at ih ⊢
    rw [List.map_cons, parseW, keyOf1_eq, ih]
theorem parse_t : ∀ ds : List (List Key × Da), parseW keyOfT (kdT ds) = some ds
  | [] => rfl
  | (k, d) :: r => by
    have ih := parse_t r
    have e : keyOfT (.tuple (k.map keyD)) = some k := keysD_map k
    unfold kdT at ih ⊢
    rw [List.map_cons, parseW, e, ih]
theorem ofD_k {ds : List (Key × Da)} (h : ds ≠ []) : ofD (kdK ds) = some (.k ds) := by
  match ds, h with
  | (.inl i, d) :: r, _ =>
    show (match parseW keyOf1 (kdK ((.inl i, d) :: r)) with
      | some kvs => some (DV.k kvs)
      | none => none) = _
    rw [parse_k]
  | (.inr i, d) :: r, _ =>
    show (match parseW keyOf1 (kdK ((.inr i, d) :: r)) with
      | some kvs => some (DV.k kvs)
      | none => none) = _
    rw [parse_k]
theorem ofD_t {ds : List (List Key × Da)} (h : ds ≠ []) : ofD (kdT ds) = some (.t ds) := by
  match ds, h with
  | (k, d) :: r, _ =>
    show (match parseW keyOfT (kdT ((k, d) :: r)) with
      | some kvs => some (DV.t kvs)
      | none => none) = _
    rw [parse_t]
theorem ofD_nil : ofD [] = none := rfl
def lookDAt : Option Sl → Option DV
  | some (.val (.dict kvs)) => ofD kvs
  | some (.odk kvs) => some (.k kvs)
  | some (.odt kvs) => some (.t kvs)
  | _ => none
def lookD (r : Sl) (e : VE) : Option DV := match r with
  | .val (.dict kvs) => ofD kvs
  | .pk i => lookDAt e[i]?
  | _ => none
/-- a dict stands at a, its data dv -/
def DvAt (K : PySem.W.Frag) (F H : Hp) (a : Addr) : DV → Prop
  | .k kvs => ∃ ks, Rd H a (.dK ks) ∧ DzK K F ks kvs
  | .t kvs => ∃ ks, Rd H a (.dT ks) ∧ DzT K F ks kvs
theorem dv_val {K : PySem.W.Frag} {F H : Hp} {v : V} {xs : List (Da × Da)} {dv : DV} (s : Same F H) (z : Dz K F v (.dict xs)) (h : ofD xs = some dv) : ∃ a, v = .ref a ∧ DvAt K F H a dv := by
  generalize hd : PyData.dict xs = dd at z
  cases z with
  | @dk a o ks ds h1 z1 =>
    cases hd
    by_cases e : ds = []
    · subst e; cases h
    · rw [ofD_k e] at h; cases h; exact ⟨_, rfl, ks, .inr ⟨_, s _ _ h1⟩, z1⟩
  | @dt a o ks ds h1 z1 =>
    cases hd
    by_cases e : ds = []
    · subst e; cases h
    · rw [ofD_t e] at h; cases h; exact ⟨_, rfl, ks, .inr ⟨_, s _ _ h1⟩, z1⟩
  | _ => cases hd
theorem Sta.lookD {K : PySem.W.Frag} {F H : Hp} {σ : L2.St} {env : VE} (S : Sta K C F H σ env) {v : V} {r : Sl} {dv : DV} (R : ResOk K C F H σ env v r) (h : VL.lookD r env = some dv) : ∃ a, v = .ref a ∧ DvAt K F H a dv := by
  cases r with
  | val d =>
    cases d with
    | dict xs => exact dv_val S.sub R h
    | _ => cases h
  | pk i =>
    have R : σ[i]? = some (some v) := R
    have h : lookDAt env[i]? = some dv := h
    cases q : env[i]? with
    | none => rw [q] at h; cases h
    | some t =>
      rw [q] at h
      have w := S.slot i t q
      cases t with
      | val d =>
        cases d with
        | dict xs =>
          obtain ⟨v', e, z⟩ := w
          rw [R] at e
          cases e
          exact dv_val S.sub z h
        | _ => cases h
      | odk kvs => cases h; obtain ⟨a, ks, e, h1, _, _, z⟩ := w; rw [R] at e; cases e; exact ⟨a, rfl, ks, .inl h1, z⟩
      | odt kvs => cases h; obtain ⟨a, ks, e, h1, _, _, z⟩ := w; rw [R] at e; cases e; exact ⟨a, rfl, ks, .inl h1, z⟩
      | _ => cases h
  | _ => cases h
def valD {κ : Type} [DecidableEq κ] : List (κ × Da) → κ → Option Da
  | [], _ => none
  | (k', d) :: r, k => if k' = k then some d else valD r k
theorem valD_k {K : PySem.W.Frag} {F : Hp} (k : Key) : ∀ {vs : List (Key × V)} {ds : List (Key × Da)}, DzK K F vs ds → (∀ d, valD ds k = some d → ∃ v, valV vs k = some v ∧ Dz K F v d) ∧ (valD ds k = none → valV vs k = none)
  | _, _, .nil => ⟨(fun d h => by cases h), fun _ => rfl⟩
  | _, _, .cons (k := k') (v := v) (vs := vs) (d := d) (ds := ds) hz t => by
    obtain ⟨i1, i2⟩ := valD_k k t
    unfold valD
    by_cases q : k' = k
    · rw [if_pos q, valV_pos (p := (k', v)) q]
      exact ⟨(fun d' h => by cases h; exact ⟨v, rfl, hz⟩), fun h => nomatch h⟩
    · rw [if_neg q, valV_neg (p := (k', v)) q]
      exact ⟨i1, i2⟩
theorem valD_t {K : PySem.W.Frag} {F : Hp} (k : List Key) : ∀ {vs : List (List Key × V)} {ds : List (List Key × Da)}, DzT K F vs ds → (∀ d, valD ds k = some d → ∃ v, valV vs k = some v ∧ Dz K F v d) ∧ (valD ds k = none → valV vs k = none)
  | _, _, .nil => ⟨(fun d h => by cases h), fun _ => rfl⟩
  | _, _, .cons (k := k') (v := v) (vs := vs) (d := d) (ds := ds) hz t => by
    obtain ⟨i1, i2⟩ := valD_t k t
    unfold valD
    by_cases q : k' = k
    · rw [if_pos q, valV_pos (p := (k', v)) q]
      exact ⟨(fun d' h => by cases h; exact ⟨v, rfl, hz⟩), fun h => nomatch h⟩
    · rw [if_neg q, valV_neg (p := (k', v)) q]
      exact ⟨i1, i2⟩
/-- what a dict gives for a key: none where the key is not of its kind -/
def DV.get : DV → Da → Option (Option Da)
  | .k kvs, key => match keyOf1 key with
    | some kk => some (valD kvs kk)
    | none => none
  | .t kvs, key => match keyOfT key with
    | some kk => some (valD kvs kk)
    | none => none
theorem dv_get {K : PySem.W.Frag} {F H : Hp} {a : Addr} {y : V} {key : Da} {dv : DV} {o : Option Da} (s : Same F H) (h : DvAt K F H a dv) (Dy : Dw K F H y key) (e : dv.get key = some o) :
    ∃ ov, DGet H a y ov ∧ ov.isSome = o.isSome ∧ ∀ d, o = some d → ∃ v, ov = some v ∧ Dz K F v d := by
  cases dv with
  | k kvs =>
    obtain ⟨ks, r, z⟩ := h
    unfold DV.get at e
    cases g : keyOf1 key with
    | none => simp only [g] at e; cases e
    | some k =>
      simp only [g] at e
      cases e
      have ek := keyOf1_of g
      subst ek
      have ey : y = kV k := by
        cases k with
        | inl i => exact Dy.int
        | inr i => exact Dy.str
      obtain ⟨i1, i2⟩ := valD_k k z
      refine ⟨valV ks k, .inl ⟨ks, k, r, ey, rfl⟩, ?_, i1⟩
      cases g2 : valD kvs k with
      | none => rw [i2 g2]; rfl
      | some d => obtain ⟨v, e, _⟩ := i1 d g2; rw [e]; rfl
  | t kvs =>
    obtain ⟨ks, r, z⟩ := h
    unfold DV.get at e
    cases g : keyOfT key with
    | none => simp only [g] at e; cases e
    | some k =>
      simp only [g] at e
      cases e
      have ek := keyOfT_of g
      subst ek
      obtain ⟨p, vs, rfl, h1, z1⟩ := Dy.tup
      have ev : vs = k.map kV := by
        clear g r z Dy h1
        induction k generalizing vs with
        | nil => cases z1; rfl
        | cons k ks ih =>
          cases z1 with
          | cons a t =>
            rw [ih _ t]
            cases k with
            | inl i => cases a; rfl
            | inr i => cases a; rfl
      obtain ⟨i1, i2⟩ := valD_t k z
      refine ⟨valV ks k, .inr ⟨ks, k, p, r, rfl, by rw [← ev]; exact s _ _ h1, rfl⟩, ?_, i1⟩
      cases g2 : valD kvs k with
      | none => rw [i2 g2]; rfl
      | some d => obtain ⟨v, e, _⟩ := i1 d g2; rw [e]; rfl
/-! d[key], key in d -/
def gotD : Option (Option Da) → VE → Out Sl
  | some (some d), e => .ok (.val d) e
  | _, _ => .no
def dgetM : Option DV → Option Da → VE → Out Sl
  | some dv, some key, e => gotD (dv.get key) e
  | _, _, _ => .no
def mDGet (ma mb : ME) : ME := fun env => (mOp ma env).bind fun r1 e1 => (mOp mb e1).bind fun r2 e2 => dgetM (lookD r1 e2) (look r2 e2) e2
theorem e_dget (hu : X.A.units + 1 < cLine) (ha : VEj X C a ma) (hb : VEj X C b mb) (hs : NoSl b := by exact fun _ _ => rfl) : VEj X C (.Subscript a b pos) (mDGet ma mb) := by
  refine PE.weak (pe_dget hu ha hb hs) fun σ H Q ⟨F, env, S, h⟩ => ?_
  unfold mDGet at h
  rw [P_bind] at h
  refine op_run S (P_mono h (fun r1 e1 _ q => ?_) fun _ x => x)
  intro v1 F1 H1 s1 S1 R1 o1
  rw [P_bind] at q
  refine op_run S1 (P_mono q (fun r2 e2 _ q => ?_) fun _ x => x.mono s1)
  intro v2 F2 H2 s2 S2 R2 o2
  cases g1 : lookD r1 e2 with
  | none => rw [g1] at q; exact q.elim
  | some dv =>
    cases g2 : look r2 e2 with
    | none => rw [g1, g2] at q; exact q.elim
    | some key =>
      rw [g1, g2] at q
      have q : (gotD (dv.get key) e2).P _ _ := q
      cases g3 : dv.get key with
      | none => rw [g3] at q; exact q.elim
      | some o =>
        rw [g3] at q
        cases o with
        | none => exact q.elim
        | some d =>
          obtain ⟨p, rfl, hd⟩ := S2.lookD (R1.keep (F' := F2) (H' := H2) o1 s2 (env' := e2)) g1
          obtain ⟨ov, hg, _, hv⟩ := dv_get S2.sub hd (S2.look R2 g2) g3
          obtain ⟨v, rfl, z⟩ := hv d rfl
          exact ⟨p, v, rfl, hg, q v F2 H2 (s1.trans s2) S2 z⟩
def gotIn (neg : Bool) : Option (Option Da) → VE → Out Sl
  | some o, e => .ok (.val (.bool (neg ^^ o.isSome))) e
  | _, _ => .no
def dinM (neg : Bool) : Option DV → Option Da → VE → Out Sl
  | some dv, some key, e => gotIn neg (dv.get key) e
  | _, _, _ => .no
def mDIn (neg : Bool) (mi md : ME) : ME := fun env => (mOp mi env).bind fun r1 e1 => (mOp md e1).bind fun r2 e2 => dinM neg (lookD r2 e2) (look r1 e2) e2
theorem din_w {K : PySem.W.Frag} {neg : Bool} {σ : L2.St} {H : Hp} {Q : VK} (h : tM K C (mDIn neg ma mb) σ H Q) : tM K C ma σ H fun y H1 => tM K C mb σ H1 fun x H2 => ∃ a o, x = .ref a ∧ DGet H2 a y o ∧ Q (.bl (neg ^^ o.isSome)) H2 := by
  obtain ⟨F, env, S, h⟩ := h
  unfold mDIn at h
  rw [P_bind] at h
  refine op_run S (P_mono h (fun r1 e1 _ q => ?_) fun _ x => x)
  intro v1 F1 H1 s1 S1 R1 o1
  rw [P_bind] at q
  refine op_run S1 (P_mono q (fun r2 e2 _ q => ?_) fun _ x => x.mono s1)
  intro v2 F2 H2 s2 S2 R2 o2
  cases g1 : lookD r2 e2 with
  | none => rw [g1] at q; exact q.elim
  | some dv =>
    cases g2 : look r1 e2 with
    | none => rw [g1, g2] at q; exact q.elim
    | some key =>
      rw [g1, g2] at q
      have q : (gotIn neg (dv.get key) e2).P _ _ := q
      cases g3 : dv.get key with
      | none => rw [g3] at q; exact q.elim
      | some o =>
        rw [g3] at q
        obtain ⟨p, rfl, hd⟩ := S2.lookD R2 g1
        obtain ⟨ov, hg, hi, _⟩ := dv_get S2.sub hd (S2.look (R1.keep (F' := F2) (H' := H2) o1 s2 (env' := e2)) g2) g3
        refine ⟨p, ov, rfl, hg, ?_⟩
        rw [hi]
        exact q _ F2 H2 (s1.trans s2) S2 (.bl _)
theorem e_din (hu : X.A.units + 1 < cLine) (hm : behindInMarks .In b = false) (ha : VEj X C a ma) (hb : VEj X C b mb) : VEj X C (.Compare a [.In] [b] pos) (mDIn false ma mb) :=
  PE.weak (pe_cmp (pc_din hu ha hb) hm) fun σ H Q h => by
    have w := din_w h
    simp only [Bool.false_xor] at w
    exact w
theorem e_dnotin (hu : X.A.units + 1 < cLine) (hm : behindInMarks .NotIn b = false) (ha : VEj X C a ma) (hb : VEj X C b mb) : VEj X C (.Compare a [.NotIn] [b] pos) (mDIn true ma mb) :=
  PE.weak (pe_cmp (pc_dnotin hu ha hb) hm) fun σ H Q h => by
    have w := din_w h
    simp only [Bool.true_xor] at w
    exact w
theorem t_din (hu : X.A.units + 1 < cLine) (hm : behindInMarks .In b = false) (ha : VEj X C a ma) (hb : VEj X C b mb) : VTj X C (.Compare a [.In] [b] pos) (mTB (mDIn false ma mb)) :=
  PT.weak (pt_cmp (pc_din hu ha hb) hm) fun σ H Q h => by
    have w := din_w (tst_of h)
    simp only [Bool.false_xor] at w
    exact w
theorem t_dnotin (hu : X.A.units + 1 < cLine) (hm : behindInMarks .NotIn b = false) (ha : VEj X C a ma) (hb : VEj X C b mb) : VTj X C (.Compare a [.NotIn] [b] pos) (mTB (mDIn true ma mb)) :=
  PT.weak (pt_cmp (pc_dnotin hu ha hb) hm) fun σ H Q h => by
    have w := din_w (tst_of h)
    simp only [Bool.true_xor] at w
    exact w
/-! ### slices -/
def cutD (xs : List Da) (lo hi : Option Int) : List Da := (xs.drop (HT.sIx xs.length 0 lo)).take (HT.sIx xs.length xs.length hi - HT.sIx xs.length 0 lo)
theorem cut_dz {K : PySem.W.Frag} {F : Hp} {vs : List V} {ds : List Da} (z : DzAll K F vs ds) (lo hi : Option Int) : DzAll K F (cutV vs lo hi) (cutD ds lo hi) := by
  unfold cutV cutD
  rw [z.length]
  exact (z.drop _).take _
def fSl (d : Da) (lo hi : Option Int) : Option Sl := match d with
  | .list xs => some (.own (cutD xs lo hi))
  | .tuple xs => some (.val (.tuple (cutD xs lo hi)))
  | _ => none
abbrev MO := VE → Out (Option Int)
def mNoP : MO := fun e => .ok none e
def pI : Sl → VE → Out (Option Int)
  | .val (.int i), e => .ok (some i) e
  | _, _ => .no
def mP (m : ME) : MO := fun env => (mOp m env).bind pI
def sliceM (l u : Option Int) : Option Da → VE → Out Sl
  | some d, e => ret (fSl d l u) e
  | _, _ => .no
def mSl (ma : ME) (ml mh : MO) : ME := fun env => (mOp ma env).bind fun r e => (ml e).bind fun l e1 => (mh e1).bind fun u e2 => sliceM l u (look r e2) e2
def tO (K : PySem.W.Frag) (C : Cc) (m : MO) : TO := fun σ H Q => ∃ F env, Sta K C F H σ env ∧ (m env).P (fun l e => ∀ F' H', Same F F' → Sta K C F' H' σ e → Q l H') (XE C F)
def VOj (X : Cx) (C : Cc) (e : Option Expr) (m : MO) : Prop := PO X e (tO X.K C m)
theorem PO.weak {X : Cx} {e : Option Expr} {t t' : TO} (h : PO X e t) (w : ∀ σ H Q, t' σ H Q → t σ H Q) : PO X e t' := ⟨fun pins s σ H Q I q => h.run pins s σ H Q I (w σ H Q q)⟩
theorem o_no : VOj X C none mNoP := PO.weak po_none fun σ H Q ⟨F, env, S, q⟩ => q F H (Same.refl F) S
theorem o_p (h : VEj X C e m) : VOj X C (some e) (mP m) := PO.weak (po_some h) fun σ H Q ⟨F, env, S, h⟩ => by
  unfold mP at h
  rw [P_bind] at h
  refine op_run S (P_mono h (fun r e _ q => ?_) fun _ x => x)
  intro v F1 H1 s1 S1 R1 o1
  cases r with
  | val d =>
    cases d with
    | int i => cases R1; exact ⟨i, rfl, q F1 H1 s1 S1⟩
    | _ => exact q.elim
  | _ => exact q.elim
def rSlD (K : PySem.W.Frag) : V → Option Int → Option Int → Hp → VK → Prop := fun x lo hi H Q => rSlL K x lo hi H Q ∨ rSlA K x lo hi H Q
theorem sl_d : SlR X (rSlD X.K) := sl_list.or sl_tupA
theorem e_sl {lo hi : Option Expr} {ml mh : MO} {p2 : Pos} (ha : VEj X C a ma) (hl : VOj X C lo ml) (hh : VOj X C hi mh) : VEj X C (.Subscript a (.Slice lo hi none p2) pos) (mSl ma ml mh) := by
  refine PE.weak (pe_slice sl_d ha hl hh) fun σ H Q ⟨F, env, S, h⟩ => ?_
  unfold mSl at h
  rw [P_bind] at h
  refine op_run S (P_mono h (fun r e1 _ q => ?_) fun _ x => x)
  intro v F1 H1 s1 S1 R1 o1
  rw [P_bind] at q
  refine ⟨F1, e1, S1, P_mono q (fun l e2 _ q => ?_) fun _ x => x.mono s1⟩
  rw [P_bind] at q
  intro F2 H2 s2 S2
  refine ⟨F2, e2, S2, P_mono q (fun u e3 _ q => ?_) fun _ x => x.mono (s1.trans s2)⟩
  intro F3 H3 s3 S3
  have sA := (s1.trans s2).trans s3
  cases g : look r e3 with
  | none => rw [g] at q; exact q.elim
  | some d =>
    rw [g] at q
    have D3 := S3.look (R1.keep (F' := F3) (H' := H3) o1 (s2.trans s3) (env' := e3)) g
    have q : (ret (fSl d l u) e3).P _ _ := q
    cases d with
    | list xs =>
      obtain ⟨p, vs, rfl, h1, z1⟩ := D3.lst S3.sub
      refine .inl ⟨p, vs, rfl, .of h1, fun w hw => ?_⟩
      obtain ⟨n1, n2, n3⟩ := S3.new hw
      exact q _ F3 _ sA (S3.alloc hw) ⟨w, _, rfl, upd_same, n1, n2, cut_dz z1 _ _, n3⟩
    | tuple xs =>
      obtain ⟨p, vs, rfl, h1, z1⟩ := D3.tup
      refine .inr ⟨p, vs, rfl, .of (S3.sub _ _ h1), fun hw => ?_, fun _ w hw => ?_⟩
      · refine q _ F3 H3 sA S3 (.tup h1 ?_)
        have z2 := cut_dz z1 l u
        have e4 : cutV vs l u = vs := by
          unfold cutV
          rw [hw.1, hw.2, List.drop_zero, Nat.sub_zero, List.take_length]
        rw [e4] at z2
        exact z2
      · obtain ⟨S4, s4⟩ := S3.allocF (o := .tup (cutV vs l u)) hw
        exact q _ _ _ (sA.trans s4) S4 (.tup upd_same ((cut_dz z1 _ _).mono s4))
    | _ => exact q.elim
end
end VL
namespace VL
open PySem PySem.Spec PyProof.Rows L2
section
variable {X : Cx} {C : Cc} {a b c e : Expr} {es : List Expr} {ma mb mc m : ME} {ms : List ME} {mA : MA} {pos : Pos}
/-! ### methods that change a list of a slot -/
def OwesM (K : PySem.W.Frag) (r : V → List V → Hp → VK → Prop) (f : List Da → List Da → Option (Da × List Da)) : Prop :=
  ∀ (F H : Hp) (a : Addr) (vs : List V) (xs : List Da) (args : List V) (ds : List Da) (res : Da) (xs' : List Da) (Q : VK), Same F H → H a = some (.lst vs) → DzAll K F vs xs → DzAll K F args ds → f xs ds = some (res, xs') →
    (∀ v vs', Dz K F v res → DzAll K F vs' xs' → Q v (upd H a (.lst vs'))) → r (.ref a) args H Q
structure MtD (X : Cx) (id : String) (f : List Da → List Da → Option (Da × List Da)) : Prop where
  ex : ∃ r, MtR X id r ∧ OwesM X.K r f
def methR (i : Nat) (mk : List Da → Sl) : Option (Da × List Da) → VE → Out Sl
  | some (r, xs'), e => .ok (.val r) (e.set i (mk xs'))
  | _, _ => .no
def methE (i : Nat) (f : List Da → List Da → Option (Da × List Da)) : Option (List Da) → Option Sl → VE → Out Sl
  | some ds, some (.own xs), e => methR i .own (f xs ds) e
  | some ds, some (.io xs), e => methR i .io (f xs ds) e
  | _, _, _ => .no
def isL : Option Da → Bool
  | some (.list _) => true
  | _ => false
def mMeth (i : Nat) (f : List Da → List Da → Option (Da × List Da)) (mA : MA) : ME := fun env => if isL (lookAt env[i]?) = true then (mA env).bind fun rs e => methE i f (valsOf rs) e[i]? e else .no
theorem lookAt_pk {K : PySem.W.Frag} {F H : Hp} {σ : L2.St} {env : VE} {i : Nat} (S : Sta K C F H σ env) (h : isL (lookAt env[i]?) = true) : ∃ a vs, σ[i]? = some (some (.ref a)) ∧ H a = some (.lst vs) := by
  cases g : lookAt env[i]? with
  | none => rw [g] at h; cases h
  | some d =>
    cases d with
    | list xs =>
      obtain ⟨v, ev⟩ := lookAt_slot S g
      have D := S.look (r := .pk i) (show ResOk K C F H σ env v (.pk i) from ev) (show VL.look (.pk i) env = some (.list xs) from g)
      obtain ⟨p, vs, rfl, h1, _⟩ := D.lst S.sub
      exact ⟨p, vs, ev, h1⟩
    | _ => rw [g] at h; cases h
theorem meth_w {K : PySem.W.Frag} {i : Nat} {f : List Da → List Da → Option (Da × List Da)} {r : V → List V → Hp → VK → Prop} (w : OwesM K r f) {σ : L2.St} {H : Hp} {Q : VK} (h : tM K C (mMeth i f mA) σ H Q) :
    tBM K "list" r (tVar i) (tA K C mA) σ H Q := by
  obtain ⟨F, env, S, h⟩ := h
  unfold mMeth at h
  by_cases hl : isL (lookAt env[i]?) = true
  · rw [if_pos hl, P_bind] at h
    obtain ⟨a, vs, ev, ha⟩ := lookAt_pk S hl
    refine ⟨.ref a, ev, .inl ⟨rfl, vs, .of ha⟩, F, env, S, P_mono h (fun rs e1 _ q => ?_) fun _ x => x⟩
    intro args F1 H1 s1 S1 RA
    cases g1 : valsOf rs with
    | none => rw [g1] at q; exact q.elim
    | some ds =>
      rw [g1] at q
      have za := res_vals RA g1
      cases g2 : e1[i]? with
      | none => rw [g2] at q; exact q.elim
      | some t =>
        rw [g2] at q
        have wt := S1.slot i t g2
        cases t with
        | own xs =>
          have q : (methR i .own (f xs ds) e1).P _ _ := q
          obtain ⟨b, ws, e2, h1, h2, h3, h4⟩ := wt
          rw [ev] at e2
          cases e2
          cases g3 : f xs ds with
          | none => rw [g3] at q; exact q.elim
          | some p =>
            obtain ⟨res, xs'⟩ := p
            rw [g3] at q
            exact w F1 H1 a ws xs args ds res xs' Q S1.sub h1 h4 za g3 fun v vs' zv zvs => q v F1 _ s1 (S1.write g2 rfl ev (s' := .own xs') ⟨a, vs', rfl, upd_same, h2, h3, zvs⟩) zv
        | io xs =>
          have q : (methR i .io (f xs ds) e1).P _ _ := q
          obtain ⟨b, ws, e2, h0, h1, h2, h4⟩ := wt
          rw [ev] at e2
          cases e2
          cases g3 : f xs ds with
          | none => rw [g3] at q; exact q.elim
          | some p =>
            obtain ⟨res, xs'⟩ := p
            rw [g3] at q
            exact w F1 H1 a ws xs args ds res xs' Q S1.sub h1 h4 za g3 fun v vs' zv zvs => q v F1 _ s1 (S1.write g2 rfl ev (s' := .io xs') ⟨a, vs', rfl, h0, upd_same, h2, zvs⟩) zv
        | _ => exact q.elim
  · rw [if_neg hl] at h
    exact h.elim
theorem e_meth {i : Nat} {x name : Str} {p1 apos cpos : Pos} {id : String} {f : List Da → List Da → Option (Da × List Da)} (pa : PlainAttrs "list") (slot : Slot "list" name id) (hty : typeOf (.builtin id) = pure (.type "method_descriptor")) (hm : MtD X id f)
    (ho : PE X (.Name x p1) (tVar i)) (ha : VAj X C (e :: es) mA)
    (hbase : attributeBase (.Name x p1) name X.env (eval (.Name x p1) X.env) = eval (.Name x p1) X.env := by rfl)
    (hfew : ((backTo cpos (starEach (e :: es) X.env)).all (fun x => !x.1) && (backToKw cpos (keywordEach [] X.env)).all (fun x => x.1.isSome)
      && decide ((e :: es).length + ([] : List Keyword).length + (if ([] : List Keyword).isEmpty then 0 else 1) < 30)) = true := by rfl)
    (hline : (apos.endLine == cpos.line) = true := by rfl) (hs : starEach (e :: es) X.env = (false, eval e X.env) :: starEach es X.env := by rfl) (hplain : (backTo cpos (starEach es X.env)).any (·.1) = false := by rfl) :
    VEj X C (.Call (.Attribute (.Name x p1) name apos) (e :: es) [] cpos) (mMeth i f mA) := by
  obtain ⟨r, hr, w⟩ := hm.ex
  exact PE.weak (pe_bm pa slot hty hr ho ha hbase hfew hline hs hplain) fun σ H Q h => meth_w w h
theorem e_meth0 {i : Nat} {x name : Str} {p1 apos cpos : Pos} {id : String} {f : List Da → List Da → Option (Da × List Da)} (pa : PlainAttrs "list") (slot : Slot "list" name id) (hty : typeOf (.builtin id) = pure (.type "method_descriptor")) (hm : MtD X id f)
    (ho : PE X (.Name x p1) (tVar i)) (hbase : attributeBase (.Name x p1) name X.env (eval (.Name x p1) X.env) = eval (.Name x p1) X.env := by rfl) (hline : (apos.endLine == cpos.line) = true := by rfl) :
    VEj X C (.Call (.Attribute (.Name x p1) name apos) [] [] cpos) (mMeth i f (mArgs [])) := by
  obtain ⟨r, hr, w⟩ := hm.ex
  refine PE.weak (pe_bm0 pa slot hty hr ho hbase hline) fun σ H Q h => ?_
  obtain ⟨v, ev, ty, F, env, S, q⟩ := meth_w w h
  exact ⟨v, ev, ty, q [] F H (Same.refl F) S trivial⟩
def fAppend (xs : List Da) : List Da → Option (Da × List Da)
  | [d] => if xs.length < sizeLine then some (.none, xs ++ [d]) else none
  | _ => none
theorem m_append : MtD X "list.append" fAppend := by
  refine ⟨_, mt_append, fun F H a vs xs args ds res xs' Q s h1 z za e k => ?_⟩
  match ds, e, za with
  | [d], e, .cons zd .nil =>
    obtain ⟨hl, e⟩ := ite_some e
    cases e
    exact ⟨a, vs, _, rfl, rfl, h1, by rw [z.length]; exact hl, k _ _ .non (z.append (.one zd))⟩
def fExtend (xs : List Da) : List Da → Option (Da × List Da)
  | [.list ys] => if xs.length + ys.length ≤ sizeLine then some (.none, xs ++ ys) else none
  | _ => none
theorem m_extend : MtD X "list.extend" fExtend := by
  refine ⟨_, mt_extend, fun F H a vs xs args ds res xs' Q s h1 z za e k => ?_⟩
  match ds, e, za with
  | [.list ys], e, .cons zd .nil =>
    obtain ⟨hl, e⟩ := ite_some e
    cases e
    generalize hd : PyData.list ys = dd at zd
    cases zd with
    | lst h2 z2 =>
      cases hd
      exact ⟨a, _, vs, _, rfl, rfl, h1, s _ _ h2, by rw [z.length, z2.length]; exact hl, k _ _ .non (z.append z2)⟩
    | _ => cases hd
def popLast (xs : List Da) : Option (Da × List Da) := match xs[xs.length - 1]? with
  | some d => some (d, xs.dropLast)
  | none => none
def popIx (xs : List Da) : Option Nat → Option (Da × List Da)
  | some j => match xs[j]? with
    | some d => some (d, xs.eraseIdx j)
    | none => none
  | none => none
def popAt (xs : List Da) (i : Int) : Option (Da × List Da) := if -(2 ^ 63) ≤ i ∧ i < 2 ^ 63 then popIx xs (ixN xs.length i) else none
def fPop (xs : List Da) : List Da → Option (Da × List Da)
  | [] => popLast xs
  | [.int i] => popAt xs i
  | _ => none
theorem m_pop : MtD X "list.pop" fPop := by
  refine ⟨_, MtR.or mt_pop mt_popAt, fun F H a vs xs args ds res xs' Q s h1 z za e k => ?_⟩
  match ds, e, za with
  | [], e, .nil =>
    have e : popLast xs = some (res, xs') := e
    unfold popLast at e
    cases g : xs[xs.length - 1]? with
    | none => simp only [g] at e; cases e
    | some d =>
      simp only [g] at e
      cases e
      obtain ⟨v, ev, zv⟩ := z.get g
      exact .inl ⟨a, vs, v, rfl, rfl, h1, by rw [z.length]; exact ev, k _ _ zv z.dropLast⟩
  | [.int i], e, .cons zd .nil =>
    have e : popAt xs i = some (res, xs') := e
    unfold popAt at e
    by_cases hb : -(2 ^ 63) ≤ i ∧ i < 2 ^ 63
    · rw [if_pos hb] at e
      cases g : ixN xs.length i with
      | none => rw [g] at e; cases e
      | some j =>
        rw [g] at e
        unfold popIx at e
        cases g2 : xs[j]? with
        | none => simp only [g2] at e; cases e
        | some d =>
          simp only [g2] at e
          cases e
          obtain ⟨v, ev, zv⟩ := z.get g2
          cases zd
          exact .inr ⟨a, vs, i, j, v, rfl, rfl, h1, hb.1, hb.2, by rw [z.length]; exact (ixN_seq g).1, ev, k _ _ zv (z.eraseIdx j)⟩
    · rw [if_neg hb] at e
      cases e
/-! methods that only read -/
def rdM (f : List Da → List Da → Option Sl) : Option Da → Option (List Da) → VE → Out Sl
  | some (.list xs), some ds, e => ret (f xs ds) e
  | _, _, _ => .no
def mRead (f : List Da → List Da → Option Sl) (m : ME) (mA : MA) : ME := fun env => (mOp m env).bind fun r e => if isL (look r e) = true then (mA e).bind fun rs e2 => rdM f (look r e2) (lookAll rs e2) e2 else .no
def OwesR (K : PySem.W.Frag) (r : V → List V → Hp → VK → Prop) (f : List Da → List Da → Option Sl) : Prop :=
  ∀ (F H : Hp) (x : V) (xs : List Da) (args : List V) (ds : List Da) (res : Sl) (Q : VK), Same F H → Dw K F H x (.list xs) → DwAll K F H args ds → f xs ds = some res → (∀ v d, res = .val d → Dz K F v d → Q v H) → r x args H Q
structure MrD (X : Cx) (id : String) (f : List Da → List Da → Option Sl) : Prop where
  ex : ∃ r, MtR X id r ∧ OwesR X.K r f
theorem e_read {name : Str} {apos cpos : Pos} {id : String} {f : List Da → List Da → Option Sl} (pa : PlainAttrs "list") (slot : Slot "list" name id) (hty : typeOf (.builtin id) = pure (.type "method_descriptor")) (hm : MrD X id f)
    (ho : VEj X C a m) (ha : VAj X C (e :: es) mA)
    (hbase : attributeBase a name X.env (eval a X.env) = eval a X.env := by rfl)
    (hfew : ((backTo cpos (starEach (e :: es) X.env)).all (fun x => !x.1) && (backToKw cpos (keywordEach [] X.env)).all (fun x => x.1.isSome)
      && decide ((e :: es).length + ([] : List Keyword).length + (if ([] : List Keyword).isEmpty then 0 else 1) < 30)) = true := by rfl)
    (hline : (apos.endLine == cpos.line) = true := by rfl) (hs : starEach (e :: es) X.env = (false, eval e X.env) :: starEach es X.env := by rfl) (hplain : (backTo cpos (starEach es X.env)).any (·.1) = false := by rfl) :
    VEj X C (.Call (.Attribute a name apos) (e :: es) [] cpos) (mRead f m mA) := by
  obtain ⟨r, hr, w⟩ := hm.ex
  refine PE.weak (pe_bm pa slot hty hr ho ha hbase hfew hline hs hplain) fun σ H Q ⟨F, env, S, h⟩ => ?_
  unfold mRead at h
  rw [P_bind] at h
  refine op_run S (P_mono h (fun r1 e1 _ q => ?_) fun _ x => x)
  intro v1 F1 H1 s1 S1 R1 o1
  by_cases hl : isL (look r1 e1) = true
  · rw [if_pos hl, P_bind] at q
    have ty : tyV X.K "list" v1 H1 := by
      cases g : look r1 e1 with
      | none => rw [g] at hl; cases hl
      | some d =>
        cases d with
        | list xs =>
          obtain ⟨p, vs, rfl, h1, _⟩ := (S1.look R1 g).lst S1.sub
          exact .inl ⟨rfl, vs, .of h1⟩
        | _ => rw [g] at hl; cases hl
    refine ⟨ty, F1, e1, S1, P_mono q (fun rs e2 _ q => ?_) fun _ x => x.mono s1⟩
    intro args F2 H2 s2 S2 RA
    cases g1 : look r1 e2 with
    | none => rw [g1] at q; exact q.elim
    | some d =>
      cases g2 : lookAll rs e2 with
      | none => rw [g1, g2] at q; cases d <;> exact q.elim
      | some ds =>
        rw [g1, g2] at q
        cases d with
        | list xs =>
          have q : (ret (f xs ds) e2).P _ _ := q
          cases g3 : f xs ds with
          | none => rw [g3] at q; exact q.elim
          | some res =>
            rw [g3] at q
            exact w F2 H2 v1 xs args ds res Q S2.sub (S2.look (R1.keep (F' := F2) (H' := H2) o1 s2 (env' := e2)) g1) (res_look S2 RA g2) g3 fun v d er z => q v F2 H2 (s1.trans s2) S2 (by rw [er]; exact z)
        | _ => exact q.elim
  · rw [if_neg hl] at q
    exact q.elim
def idxD (d : Da) : List Da → Nat → Option Nat
  | [], _ => none
  | x :: r, n => if PyData.eqv x d = true then some n else idxD d r (n + 1)
theorem idxD_at {d : Da} : ∀ {xs : List Da} {n j : Nat}, idxD d xs n = some j → n ≤ j ∧ (∃ z, xs[j - n]? = some z ∧ PyData.eqv z d = true) ∧ ∀ m z, m < j - n → xs[m]? = some z → PyData.eqv z d = false
  | [], _, _, h => by cases h
  | x :: r, n, j, h => by
    unfold idxD at h
    by_cases e : PyData.eqv x d = true
    · rw [if_pos e] at h
      cases h
      rw [Nat.sub_self]
      exact ⟨Nat.le_refl _, ⟨x, rfl, e⟩, fun m z hm => absurd hm (Nat.not_lt_zero _)⟩
    · rw [if_neg e] at h
      obtain ⟨h1, ⟨z, h2, h3⟩, h4⟩ := idxD_at h
      have e1 : j - n = (j - (n + 1)) + 1 := by omega
      rw [e1]
      refine ⟨by omega, ⟨z, by simpa using h2, h3⟩, fun m z hm hz => ?_⟩
      cases m with
      | zero => simp at hz; subst hz; exact Bool.eq_false_iff.mpr e
      | succ m => exact h4 m z (by omega) (by simpa using hz)
def natS : Option Nat → Option Sl
  | some j => some (.val (.int (j : Nat)))
  | none => none
def idx1 (xs : List Da) (d : Da) : Option Sl := if SeqAt.shaped (.list xs) = true ∧ SeqAt.shaped d = true then natS (idxD d xs 0) else none
def fIndex (xs : List Da) : List Da → Option Sl
  | [d] => idx1 xs d
  | _ => none
theorem m_index (hu : X.A.units + 65 < cLine) : MrD X "list.index" fIndex := by
  refine ⟨_, mt_indexD hu, fun F H x xs args ds res Q s Dx Da' e k => ?_⟩
  match ds, e with
  | [d], e =>
    obtain ⟨y, rfl, Dy⟩ := dw1 Da'
    have e : idx1 xs d = some res := e
    unfold idx1 at e
    by_cases hs : SeqAt.shaped (.list xs) = true ∧ SeqAt.shaped d = true
    · rw [if_pos hs] at e
      cases g : idxD d xs 0 with
      | none => rw [g] at e; cases e
      | some j =>
        rw [g] at e
        obtain ⟨_, ⟨z, h2, h3⟩, h4⟩ := idxD_at g
        rw [Nat.sub_zero] at h2 h4
        have Dp1 := Dx.dp s (SeqAt.canLay_of_shaped hs.1)
        obtain ⟨p, vs, rfl, _, _⟩ := Dx.lst s
        exact ⟨p, y, d, xs, j, z, rfl, rfl, Dp1, Dy.dp s (SeqAt.canLay_of_shaped hs.2), hs.1, hs.2, h2, h3, h4, k _ _ (Option.some.inj e).symm (.int _)⟩
    · rw [if_neg hs] at e
      cases e

/-! ### statements -/
inductive Fl where
  | nx | bk | ct
  | rt (r : Sl)
abbrev MS := VE → Out Fl
def FlOk (K : PySem.W.Frag) (C : Cc) (D : Ends) (F H : Hp) (σ : L2.St) (env : VE) : Fl → Prop
  | .nx => D.nx σ H
  | .bk => D.bk σ H
  | .ct => D.ct σ H
  | .rt r => ∀ v, ResOk K C F H σ env v r → D.rt v H
def tS (K : PySem.W.Frag) (C : Cc) (m : MS) : TS := fun D σ H => ∃ F env, Sta K C F H σ env ∧ (m env).P (fun f e => ∀ F' H' σ', Same F F' → Sta K C F' H' σ' e → FlOk K C D F' H' σ' e f) (XE C F)
def VSj (X : Cx) (C : Cc) (st : Stmt) (m : MS) : Prop := PS X st (tS X.K C m)
def VSs (X : Cx) (C : Cc) (st : List Stmt) (m : MS) : Prop := PSs X st (tS X.K C m)
theorem PS.weak {X : Cx} {st : Stmt} {t t' : TS} (h : PS X st t) (w : ∀ D σ H, t' D σ H → t D σ H) : PS X st t' := ⟨fun pins s σ H D I q => h.run pins s σ H D I (w D σ H q)⟩
theorem PSs.weak {X : Cx} {st : List Stmt} {t t' : TS} (h : PSs X st t) (w : ∀ D σ H, t' D σ H → t D σ H) : PSs X st t' := ⟨fun pins s σ H D I q => h.run pins s σ H D I (w D σ H q)⟩
variable {st : Stmt} {sts : List Stmt} {s1 s2 : MS}
def sNext : MS := fun e => .ok .nx e
def seqF (m : MS) : Fl → VE → Out Fl
  | .nx, e => m e
  | f, e => .ok f e
def sSeq (m1 m2 : MS) : MS := fun env => (m1 env).bind (seqF m2)
theorem ss_nil : VSs X C [] sNext := PSs.weak pss_nil fun D σ H ⟨F, env, S, q⟩ => q F H σ (Same.refl F) S
theorem ss_one (h : VSj X C st s1) : VSs X C [st] s1 := pss_one h
theorem ss_cons (h : VSj X C st s1) (h2 : VSs X C sts s2) : VSs X C (st :: sts) (sSeq s1 s2) := PSs.weak (pss_cons h h2) fun D σ H ⟨F, env, S, q⟩ => by
  unfold sSeq at q
  rw [P_bind] at q
  refine ⟨F, env, S, P_mono q (fun f e _ q => ?_) fun _ x => x⟩
  intro F1 H1 σ1 t1 S1
  cases f with
  | nx => exact ⟨F1, e, S1, P_mono q (fun f e2 _ q F2 H2 σ2 t2 S2 => q F2 H2 σ2 (t1.trans t2) S2) fun _ x => x.mono t1⟩
  | bk => exact q F1 H1 σ1 t1 S1
  | ct => exact q F1 H1 σ1 t1 S1
  | rt r => exact q F1 H1 σ1 t1 S1
def sPass : MS := sNext
theorem s_pass : VSj X C (.Pass pos) sPass := PS.weak ps_pass fun D σ H ⟨F, env, S, q⟩ => q F H σ (Same.refl F) S
def sBreak : MS := fun e => .ok .bk e
theorem s_break : VSj X C (.Break pos) sBreak := PS.weak ps_break fun D σ H ⟨F, env, S, q⟩ => q F H σ (Same.refl F) S
def sCont : MS := fun e => .ok .ct e
theorem s_continue : VSj X C (.Continue pos) sCont := PS.weak ps_continue fun D σ H ⟨F, env, S, q⟩ => q F H σ (Same.refl F) S
theorem s_doc {x : Str} {j : Nat} {p : Pos} : VSj X C (.Expr (.Constant (.str x) j p) pos) sPass := PS.weak ps_doc fun D σ H ⟨F, env, S, q⟩ => q F H σ (Same.refl F) S
def sExpr (m : ME) : MS := fun env => (m env).bind fun _ e => .ok .nx e
theorem s_expr (h : VEj X C e m) (hs : swapsWith e none pos.line X.env = pure false := by rfl) : VSj X C (.Expr e pos) (sExpr m) := PS.weak (ps_expr h hs) fun D σ H ⟨F, env, S, q⟩ => by
  unfold sExpr at q
  rw [P_bind] at q
  exact ⟨F, env, S, P_mono q (fun r e _ q v F1 H1 t1 S1 _ => q F1 H1 σ t1 S1) fun _ x => x⟩
/-- what a return hands out: a slot's own list goes with it -/
def takeAt (i : Nat) (e : VE) : Option Sl → Out Sl
  | some (.own xs) => .ok (.own xs) (e.set i .no)
  | some (.odk kvs) => .ok (.odk kvs) (e.set i .no)
  | some (.odt kvs) => .ok (.odt kvs) (e.set i .no)
  | some (.val d) => .ok (.val d) e
  | some (.scr ns) => .ok (.scr ns) e
  | _ => .no
def mTake (i : Nat) : ME := fun e => takeAt i e e[i]?
theorem e_take (i : Nat) {x : Str} {pos : Pos} (hN : X.N[i]? = some x := by rfl) (hv : Vis X.env.scope x := by first | exact Or.inl rfl | exact Or.inr (Or.inl rfl) | exact Or.inr (Or.inr rfl)) (hd : (x == ("__debug__" : Str)) = false := by decide)
    (hcd : (x == ("__classdict__" : Str)) = false := by decide) : VEj X C (.Name x pos) (mTake i) := by
  refine PE.weak (pv i hN hv hd hcd) fun σ H Q ⟨F, env, S, q⟩ => ?_
  unfold mTake at q
  cases g : env[i]? with
  | none => rw [g] at q; exact q.elim
  | some t =>
    rw [g] at q
    have w := S.slot i t g
    cases t with
    | val d => obtain ⟨v, e, z⟩ := w; exact ⟨v, e, q v F H (Same.refl F) S z⟩
    | scr ns => obtain ⟨a, e, z⟩ := w; exact ⟨_, e, q _ F H (Same.refl F) S ⟨a, rfl, z⟩⟩
    | own xs => obtain ⟨a, vs, e, h1, h2, h3, h4⟩ := w; exact ⟨_, e, q _ F H (Same.refl F) (S.drop i) ⟨a, vs, rfl, h1, h2, h3, h4, S.apart g rfl e⟩⟩
    | odk kvs => obtain ⟨a, vs, e, h1, h2, h3, h4⟩ := w; exact ⟨_, e, q _ F H (Same.refl F) (S.drop i) ⟨a, vs, rfl, h1, h2, h3, h4, S.apart g rfl e⟩⟩
    | odt kvs => obtain ⟨a, vs, e, h1, h2, h3, h4⟩ := w; exact ⟨_, e, q _ F H (Same.refl F) (S.drop i) ⟨a, vs, rfl, h1, h2, h3, h4, S.apart g rfl e⟩⟩
    | no => exact q.elim
    | io xs => exact q.elim
    | pk j => exact q.elim
def sRet (m : ME) : MS := fun env => (m env).bind fun r e => .ok (.rt r) e
theorem s_ret (h : VEj X C e m) : VSj X C (.Return (some e) pos) (sRet m) := PS.weak (ps_ret h) fun D σ H ⟨F, env, S, q⟩ => by
  unfold sRet at q
  rw [P_bind] at q
  exact ⟨F, env, S, P_mono q (fun r e _ q v F1 H1 t1 S1 R => q F1 H1 σ t1 S1 v R) fun _ x => x⟩
def sRetN : MS := fun e => .ok (.rt (.val .none)) e
theorem s_retN : VSj X C (.Return none pos) sRetN := PS.weak ps_retN fun D σ H ⟨F, env, S, q⟩ => q F H σ (Same.refl F) S _ .non
def sIf (t : MT) (m1 m2 : MS) : MS := fun env => (t env).bind fun c e => if c = true then m1 e else m2 e
theorem s_if {t : Expr} {as bs : List Stmt} {mt : MT} (ht : VTj X C t mt) (ha : VSs X C as s1) (hb : VSs X C bs s2) : VSj X C (.If t as bs pos) (sIf mt s1 s2) := PS.weak (ps_if ht ha hb) fun D σ H ⟨F, env, S, q⟩ => by
  unfold sIf at q
  rw [P_bind] at q
  refine ⟨F, env, S, P_mono q (fun c e _ q F1 H1 t1 S1 => ?_) fun _ x => x⟩
  have q' := P_mono (x' := XE C F1) (p' := fun f e2 => ∀ F2 H2 σ2, Same F1 F2 → Sta X.K C F2 H2 σ2 e2 → FlOk X.K C D F2 H2 σ2 e2 f) q (fun f e2 _ q F2 H2 σ2 t2 S2 => q F2 H2 σ2 (t1.trans t2) S2) fun _ x => x.mono t1
  cases c with
  | true => rw [if_pos rfl] at q'; exact iteT ⟨F1, e, S1, q'⟩
  | false => rw [if_neg Bool.false_ne_true] at q'; exact iteF ⟨F1, e, S1, q'⟩

/-! ### targets -/
abbrev MG := Sl → VE → Out Unit
def tG (K : PySem.W.Frag) (C : Cc) (g : MG) : TG := fun v σ H Q => ∃ F env r, Sta K C F H σ env ∧ ResOk K C F H σ env v r ∧ (g r env).P (fun _ e => ∀ F' H' σ', Same F F' → Sta K C F' H' σ' e → Q σ' H') (XE C F)
def VGj (X : Cx) (C : Cc) (tg : Expr) (g : MG) : Prop := PG X tg (tG X.K C g)
theorem PG.weak {X : Cx} {tg : Expr} {t t' : TG} (h : PG X tg t) (w : ∀ v σ H Q, t' v σ H Q → t v σ H Q) : PG X tg t' := ⟨fun pins s σ H v u Q I r q => h.run pins s σ H v u Q I r (w v σ H Q q)⟩
def notPk : Sl → Bool
  | .pk _ => false
  | _ => true
def gNm (i : Nat) : MG := fun r e => if i < e.length ∧ notPk r = true then .ok () (e.set i r) else .no
theorem g_name {i : Nat} {x : Str} (hN : X.N.Nodup) (hi : X.N[i]? = some x) (hx : Loc X.env.scope x) (hf : X.fn x = true ∨ X.env.scope.names.lookup x = some .local := by first | exact .inl rfl | exact .inr rfl | assumption) : VGj X C (.Name x pos) (gNm i) :=
  PG.weak (pg_name hN hi hx hf) fun v σ H Q ⟨F, env, r, S, R, q⟩ => by
    unfold gNm at q
    by_cases hc : i < env.length ∧ notPk r = true
    · rw [if_pos hc] at q
      exact q F H _ (Same.refl F) (S.set (by rw [S.len]; exact hc.1) R fun j e => by rw [e] at hc; exact Bool.noConfusion hc.2)
    · rw [if_neg hc] at q
      exact q.elim
/-- xs[i] = v, xs a list of a slot -/
def setL (j : Nat) (mk : List Da → Sl) (d : Da) (xs : List Da) : Option Nat → VE → Out Unit
  | some k, e => .ok () (e.set j (mk (xs.set k d)))
  | none, _ => .no
def setA (j : Nat) (d : Da) : Option Sl → Option Da → VE → Out Unit
  | some (.own xs), some (.int i), e => setL j .own d xs (ixN xs.length i) e
  | some (.io xs), some (.int i), e => setL j .io d xs (ixN xs.length i) e
  | _, _, _ => .no
def gSub (j : Nat) (mi : ME) : MG := fun r env => match r with
  | .val d => if isL (lookAt env[j]?) = true then (mOp mi env).bind fun ri e => setA j d e[j]? (look ri e) e else .no
  | _ => .no
theorem slot_there {K : PySem.W.Frag} {F H : Hp} {σ : L2.St} {env : VE} {j : Nat} {t : Sl} (S : Sta K C F H σ env) (h : env[j]? = some t) (o : isOw t = true) : ∃ a, σ[j]? = some (some (.ref a)) := by
  have w := S.slot j t h
  cases t with
  | own xs => obtain ⟨a, _, e, _⟩ := w; exact ⟨a, e⟩
  | io xs => obtain ⟨a, _, e, _⟩ := w; exact ⟨a, e⟩
  | odk xs => obtain ⟨a, _, e, _⟩ := w; exact ⟨a, e⟩
  | odt xs => obtain ⟨a, _, e, _⟩ := w; exact ⟨a, e⟩
  | _ => cases o
theorem g_sub {j : Nat} {x : Str} {p1 : Pos} {i : Expr} {mi : ME} (ho : PE X (.Name x p1) (tVar j)) (hi : VEj X C i mi) (hg : ∀ {to ti : TE} {t : TSet}, PE X (.Name x p1) to → PE X i ti → PSet X t → PG X (.Subscript (.Name x p1) i pos) (L2.gSub to ti t)) :
    VGj X C (.Subscript (.Name x p1) i pos) (gSub j mi) := PG.weak (hg ho hi set_list) fun v σ H Q ⟨F, env, r, S, R, q⟩ => by
  cases r with
  | val d =>
    have q : (if isL (lookAt env[j]?) = true then (mOp mi env).bind fun ri e => setA j d e[j]? (look ri e) e else Out.no).P _ _ := q
    by_cases hl : isL (lookAt env[j]?) = true
    · rw [if_pos hl, P_bind] at q
      obtain ⟨a, vs, ev, ha⟩ := lookAt_pk S hl
      refine ⟨.ref a, ev, ?_⟩
      refine op_run S (P_mono q (fun ri e1 _ q => ?_) fun _ x => x)
      intro v1 F1 H1 s1 S1 R1 o1
      have zd : Dz X.K F1 v d := R.mono s1
      cases g1 : look ri e1 with
      | none => rw [g1] at q; cases g2 : e1[j]? <;> rw [g2] at q <;> first | exact q.elim | (rename_i t; cases t <;> exact q.elim)
      | some di =>
        rw [g1] at q
        have Di := S1.look R1 g1
        cases g2 : e1[j]? with
        | none => rw [g2] at q; exact q.elim
        | some t =>
          rw [g2] at q
          have wt := S1.slot j t g2
          cases t with
          | own xs =>
            cases di with
            | int k =>
              have q : (setL j .own d xs (ixN xs.length k) e1).P _ _ := q
              obtain ⟨b, ws, e2, h1, h2, h3, h4⟩ := wt
              rw [ev] at e2
              cases e2
              cases g3 : ixN xs.length k with
              | none => rw [g3] at q; exact q.elim
              | some kk =>
                rw [g3] at q
                exact ⟨a, ws, k, kk, rfl, Di.int, h1, by rw [h4.length]; exact g3, q F1 _ σ s1 (S1.write g2 rfl ev (s' := .own (xs.set kk d)) ⟨a, _, rfl, upd_same, h2, h3, h4.set zd kk⟩)⟩
            | _ => exact q.elim
          | io xs =>
            cases di with
            | int k =>
              have q : (setL j .io d xs (ixN xs.length k) e1).P _ _ := q
              obtain ⟨b, ws, e2, h0, h1, h2, h4⟩ := wt
              rw [ev] at e2
              cases e2
              cases g3 : ixN xs.length k with
              | none => rw [g3] at q; exact q.elim
              | some kk =>
                rw [g3] at q
                exact ⟨a, ws, k, kk, rfl, Di.int, h1, by rw [h4.length]; exact g3, q F1 _ σ s1 (S1.write g2 rfl ev (s' := .io (xs.set kk d)) ⟨a, _, rfl, h0, upd_same, h2, h4.set zd kk⟩)⟩
            | _ => exact q.elim
          | _ => exact q.elim
    · rw [if_neg hl] at q
      exact q.elim
  | _ => exact q.elim
/-- a, b, .. = a tuple -/
def gGo : List MG → List Da → VE → Out Unit
  | [], [], e => .ok () e
  | g :: gs, d :: ds, e => (g (.val d) e).bind fun _ e2 => gGo gs ds e2
  | _, _, _ => .no
def gTu (gs : List MG) : MG := fun r e => match r with
  | .val (.tuple ds) => gGo gs ds e
  | _ => .no
def tGs (K : PySem.W.Frag) (C : Cc) (gs : List MG) : TGs := fun vs σ H Q => ∃ F env ds, Sta K C F H σ env ∧ DzAll K F vs ds ∧ (gGo gs ds env).P (fun _ e => ∀ F' H' σ', Same F F' → Sta K C F' H' σ' e → Q σ' H') (XE C F)
def VGs (X : Cx) (C : Cc) (ts : List Expr) (gs : List MG) : Prop := PGs X ts (tGs X.K C gs)
theorem PGs.weak {X : Cx} {tg : List Expr} {t t' : TGs} (h : PGs X tg t) (w : ∀ v σ H Q, t' v σ H Q → t v σ H Q) : PGs X tg t' := ⟨fun pins s σ H v u Q I r q => h.run pins s σ H v u Q I r (w v σ H Q q)⟩
theorem gs_nil : VGs X C [] [] := PGs.weak pgs_nil fun vs σ H Q ⟨F, env, ds, S, z, q⟩ => by
  cases z with
  | nil => exact ⟨rfl, q F H σ (Same.refl F) S⟩
  | cons _ _ => exact q.elim
theorem gs_cons {g : MG} {gs : List MG} (h1 : VGj X C e g) (h2 : VGs X C es gs) (hs : (assignEach (e :: es) X.env).map (·.2) = assign e X.env :: (assignEach es X.env).map (·.2) := by rfl) : VGs X C (e :: es) (g :: gs) :=
  PGs.weak (pgs_cons h1 h2 hs) fun vs σ H Q ⟨F, env, ds, S, z, q⟩ => by
    cases z with
    | nil => exact q.elim
    | @cons v vs d ds zd zt =>
      have q : ((g (.val d) env).bind fun _ e2 => gGo gs ds e2).P _ _ := q
      rw [P_bind] at q
      refine ⟨v, vs, rfl, F, env, .val d, S, zd, P_mono q (fun _ e1 _ q F1 H1 σ1 t1 S1 => ?_) fun _ x => x⟩
      exact ⟨F1, e1, ds, S1, zt.mono t1, P_mono q (fun _ e2 _ q F2 H2 σ2 t2 S2 => q F2 H2 σ2 (t1.trans t2) S2) fun _ x => x.mono t1⟩
theorem gGo_len : ∀ {gs : List MG} {ds : List Da} {e : VE} {p : Unit → VE → Prop} {x : Da → Prop}, (gGo gs ds e).P p x → (∀ d, ¬ x d) → gs.length = ds.length
  | [], [], _, _, _, _, _ => rfl
  | g :: gs, d :: ds, e, p, x, h, hx => by
    have h : ((g (.val d) e).bind fun _ e2 => gGo gs ds e2).P p x := h
    cases q : g (.val d) e with
    | ok u e2 => rw [q] at h; rw [List.length_cons, List.length_cons, gGo_len (gs := gs) (ds := ds) (e := e2) h hx]
    | exc y => rw [q] at h; exact absurd h (hx y)
    | no => rw [q] at h; exact h.elim
  | [], _ :: _, _, _, _, h, _ => h.elim
  | _ :: _, [], _, _, _, h, _ => h.elim
def gTuN (n : Nat) (gs : List MG) : MG := fun r e => match r with
  | .val (.tuple ds) => if ds.length = n then gGo gs ds e else .no
  | _ => .no
theorem g_tup {k n : Nat} {gs : List MG} (hc : X.calm = true) (h : VGs X C es gs) (hn : (assignEach es X.env).length = n := by rfl) (hst : (assignEach es X.env).findIdx? (·.1) = none := by rfl) : VGj X C (.Tuple es k pos) (gTuN n gs) :=
  PG.weak (pg_tup hc h hn hst) fun v σ H Q ⟨F, env, r, S, R, q⟩ => by
    cases r with
    | val d =>
      cases d with
      | tuple ds =>
        have q : (if ds.length = n then gGo gs ds env else Out.no).P _ _ := q
        by_cases hl : ds.length = n
        · rw [if_pos hl] at q
          obtain ⟨p, vs, rfl, h1, z1⟩ := Dw.tup (H := H) (.inl R)
          exact ⟨p, vs, rfl, .of (S.sub _ _ h1), by rw [z1.length]; exact hl, F, env, ds, S, z1, q⟩
        · rw [if_neg hl] at q
          exact q.elim
      | _ => exact q.elim
    | _ => exact q.elim
/-! ### assignments -/
def sAsg (m : ME) (g : MG) : MS := fun env => (m env).bind fun r e => (g r e).bind fun _ e2 => .ok .nx e2
theorem asg_w {K : PySem.W.Frag} {g : MG} {D : Ends} {σ : L2.St} {H : Hp} (h : tS K C (sAsg m g) D σ H) : tAsg (tM K C m) (tG K C g) D σ H := by
  obtain ⟨F, env, S, q⟩ := h
  unfold sAsg at q
  rw [P_bind] at q
  refine ⟨F, env, S, P_mono q (fun r e _ q v F1 H1 t1 S1 R => ?_) fun _ x => x⟩
  rw [P_bind] at q
  exact ⟨F1, e, r, S1, R, P_mono q (fun _ e2 _ q F2 H2 σ2 t2 S2 => q F2 H2 σ2 (t1.trans t2) S2) fun _ x => x.mono t1⟩
theorem s_asg {g : MG} (he : VEj X C e m) (hg : VGj X C a g) (hs : swapsWithSole [a] e pos.line X.env = pure false := by rfl) (hw : swappedStores [a] e X.env = pure none := by rfl)
    (h1 : (assignEach [a] X.env).map (·.2) = [assign a X.env] := by rfl) : VSj X C (.Assign [a] e pos) (sAsg m g) := PS.weak (ps_asg he hg hs hw h1) fun D σ H h => asg_w h
theorem asg_n {K : PySem.W.Frag} {i : Nat} {D : Ends} {σ : L2.St} {H : Hp} (h : tS K C (sAsg m (gNm i)) D σ H) : tAsg (tM K C m) (gName i) D σ H := by
  obtain ⟨F, env, S, q⟩ := h
  unfold sAsg at q
  rw [P_bind] at q
  refine ⟨F, env, S, P_mono q (fun r e _ q v F1 H1 t1 S1 R => ?_) fun _ x => x⟩
  rw [P_bind] at q
  unfold gNm at q
  by_cases hc : i < e.length ∧ notPk r = true
  · rw [if_pos hc] at q
    exact q F1 H1 _ t1 (S1.set (by rw [S1.len]; exact hc.1) R fun j e => by rw [e] at hc; exact Bool.noConfusion hc.2)
  · rw [if_neg hc] at q
    exact q.elim
theorem s_set {i : Nat} {x : Str} {pos' : Pos} (hN : X.N.Nodup) (hi : X.N[i]? = some x) (hx : Loc X.env.scope x) (he : VEj X C e m) (hs : swapsWith e (some (.Name x pos')) pos.line X.env = pure false := by rfl) (hf : X.fn x = true ∨ X.env.scope.names.lookup x = some .local := by first | exact .inl rfl | exact .inr rfl | assumption) :
    VSj X C (.Assign [.Name x pos'] e pos) (sAsg m (gNm i)) := PS.weak (ps_set hN hi hx he hs hf) fun D σ H h => asg_n h
/-! a, b = e1, e2 of two local names: nothing is frozen -/
/-- a list (dict) of one's own, not in a slot, is kept while something else is worked out -/
def Cc.with (C : Cc) (a : Addr) (o : HO) : Cc := { C with H0 := upd C.H0 a o }
theorem Sta.keepTemp {K : PySem.W.Frag} {F H : Hp} {σ : L2.St} {env : VE} (S : Sta K C F H σ env) {a : Addr} {o : HO} (h1 : H a = some o) (h2 : F a = none) (h3 : C.H0 a = none) (ap : Apart σ env a) : Sta K (C.with a o) F H σ env := by
  have h0 : ∀ {i : Nat} {s : Sl} {b : Addr}, env[i]? = some s → isOw s = true → σ[i]? = some (some (V.ref b)) → C.H0 b = none → (C.with a o).H0 b = none := fun {i s b} q ow e h => by
    show upd C.H0 a o b = none
    rw [upd_ne (fun z => by subst z; exact ap i s q ow e)]; exact h
  refine ⟨S.len, S.sub, S.mono, fun b u q io => ?_, fun b q => ?_, fun b io => ⟨(S.iok b io).1, fun z => (S.iok b io).2 (upd_none z).2⟩, fun i s q => ?_, S.dist⟩
  · by_cases e : b = a
    · subst e
      have q : upd C.H0 b o b = some u := q
      rw [upd_same] at q; cases q; exact h1
    · have q : upd C.H0 a o b = some u := q
      rw [upd_ne e] at q; exact S.frame b u q io
  · rcases S.fnew b q with z | z
    · exact .inl z
    · refine .inr ?_
      show upd C.H0 a o b = none
      rw [upd_ne (fun e => by subst e; exact q h2)]; exact z
  · have w := S.slot i s q
    cases s with
    | own xs => obtain ⟨b, vs, e, p1, p2, p3, p4⟩ := w; exact ⟨b, vs, e, p1, p2, h0 q rfl e p3, p4⟩
    | odk xs => obtain ⟨b, vs, e, p1, p2, p3, p4⟩ := w; exact ⟨b, vs, e, p1, p2, h0 q rfl e p3, p4⟩
    | odt xs => obtain ⟨b, vs, e, p1, p2, p3, p4⟩ := w; exact ⟨b, vs, e, p1, p2, h0 q rfl e p3, p4⟩
    | _ => exact w
theorem Sta.unkeep {K : PySem.W.Frag} {F H F0 : Hp} {σ : L2.St} {env : VE} {a : Addr} {o : HO} (S : Sta K (C.with a o) F H σ env) (h3 : C.H0 a = none) (hF : C.F0 a = none) (hio : C.io ≠ some a) :
    Sta K C F H σ env ∧ H a = some o ∧ F a = none ∧ Apart σ env a := by
  have ha : (C.with a o).H0 a = some o := upd_same
  have fa : F a = none := by
    cases q : F a with
    | none => rfl
    | some u =>
      rcases S.fnew a (by rw [q]; simp) with z | z
      · exact absurd hF z
      · rw [ha] at z; cases z
  have ap : Apart σ env a := fun i s q ow e => by
    have w := S.slot i s q
    cases s with
    | own xs => obtain ⟨b, vs, e2, p1, p2, p3, p4⟩ := w; rw [e] at e2; cases e2; rw [ha] at p3; cases p3
    | odk xs => obtain ⟨b, vs, e2, p1, p2, p3, p4⟩ := w; rw [e] at e2; cases e2; rw [ha] at p3; cases p3
    | odt xs => obtain ⟨b, vs, e2, p1, p2, p3, p4⟩ := w; rw [e] at e2; cases e2; rw [ha] at p3; cases p3
    | io xs => obtain ⟨b, vs, e2, p0, p1, p2, p4⟩ := w; rw [e] at e2; cases e2; exact hio p0
    | _ => cases ow
  refine ⟨⟨S.len, S.sub, S.mono, fun b u q io => ?_, fun b q => ?_, fun b io => ⟨(S.iok b io).1, fun z => (S.iok b io).2 ?_⟩, fun i s q => ?_, S.dist⟩, S.frame a o ha hio, fa, ap⟩
  · refine S.frame b u ?_ io
    show upd C.H0 a o b = some u
    rw [upd_ne (ne_of_none q h3)]; exact q
  · rcases S.fnew b q with z | z
    · exact .inl z
    · exact .inr (upd_none z).2
  · have e : b ≠ a := fun e => by subst e; exact hio io
    show upd C.H0 a o b = none
    rw [upd_ne e]; exact z
  · have w := S.slot i s q
    cases s with
    | own xs => obtain ⟨b, vs, e, p1, p2, p3, p4⟩ := w; exact ⟨b, vs, e, p1, p2, (upd_none p3).2, p4⟩
    | odk xs => obtain ⟨b, vs, e, p1, p2, p3, p4⟩ := w; exact ⟨b, vs, e, p1, p2, (upd_none p3).2, p4⟩
    | odt xs => obtain ⟨b, vs, e, p1, p2, p3, p4⟩ := w; exact ⟨b, vs, e, p1, p2, (upd_none p3).2, p4⟩
    | _ => exact w
theorem XE.keep {F : Hp} {a : Addr} {o : HO} {x : Da} (h : XE C F x) (h3 : C.H0 a = none) : XE (C.with a o) F x := fun F' H' s f => h F' H' s ⟨f.sub, f.mono, fun b u q io => f.frame b u (by
    show upd C.H0 a o b = some u
    rw [upd_ne (ne_of_none q h3)]; exact q) io, fun b q => by
  rcases f.fnew b q with z | z
  · exact .inl z
  · exact .inr (upd_none z).2⟩
def keptS : Sl → Bool
  | .val _ | .own _ | .scr _ => true
  | _ => false
def sPar (i j : Nat) (ma mb : ME) : MS := fun env => (ma env).bind fun r1 e1 => if keptS r1 = true then (mb e1).bind fun r2 e2 => if i < e2.length ∧ j < e2.length ∧ notPk r2 = true then .ok .nx ((e2.set i r1).set j r2) else .no else .no
theorem PE.all {e : Expr} {t : Cc → TE} (h : ∀ C, PE X e (t C)) : PE X e (fun σ H Q => ∃ C, t C σ H Q) := ⟨fun pins s σ H Q I ⟨C, q⟩ => (h C).run pins s σ H Q I q⟩
theorem Sta.set2 {K : PySem.W.Frag} {F H : Hp} {σ : L2.St} {env : VE} (S : Sta K C F H σ env) {i j : Nat} {v w : V} {r q : Sl} (hi : i < env.length) (hj : j < env.length) (R : ResOk K C F H σ env v r) (R2 : ResOk K C F H σ env w q) (np : notPk r = true) (np2 : notPk q = true)
    (d : ∀ a, isOw r = true → v = .ref a → isOw q = true → w ≠ .ref a) : Sta K C F H ((σ.set i (some v)).set j (some w)) ((env.set i r).set j q) := by
  have S1 := S.set (i := i) (by rw [S.len]; exact hi) R fun k e => by rw [e] at np; cases np
  refine S1.set (by rw [List.length_set, S.len]; exact hj) ?_ fun k e => by rw [e] at np2; cases np2
  have ap : ∀ b, isOw q = true → w = .ref b → Apart σ env b → Apart (σ.set i (some v)) (env.set i r) b := fun b oq ew z k t h ow g => by
    rcases get_set h with ⟨rfl, rfl⟩ | ⟨n, h⟩
    · rw [List.getElem?_set_self (by rw [S.len]; exact hi)] at g
      exact d b ow (Option.some.inj (Option.some.inj g)) oq ew
    · rw [List.getElem?_set_ne (Ne.symm n)] at g
      exact z k t h ow g
  cases q with
  | own xs => obtain ⟨b, vs, e, p1, p2, p3, p4, p5⟩ := R2; exact ⟨b, vs, e, p1, p2, p3, p4, ap b rfl e p5⟩
  | odk xs => obtain ⟨b, vs, e, p1, p2, p3, p4, p5⟩ := R2; exact ⟨b, vs, e, p1, p2, p3, p4, ap b rfl e p5⟩
  | odt xs => obtain ⟨b, vs, e, p1, p2, p3, p4, p5⟩ := R2; exact ⟨b, vs, e, p1, p2, p3, p4, ap b rfl e p5⟩
  | pk k => cases np2
  | _ => exact R2
theorem s_par {i j : Nat} {x y : Str} {px py pt : Pos} {kt k2 : Nat} {pt2 : Pos} (hc : X.calm = true) (hN : X.N.Nodup) (hi : X.N[i]? = some x) (hj : X.N[j]? = some y) (hij : i ≠ j)
    (hx : X.env.scope.names.lookup x = some .local) (hy : X.env.scope.names.lookup y = some .local) (ha : VEj X C a ma) (hb : ∀ C, VEj X C b mb)
    (hw : swappedStores [.Tuple [.Name x px, .Name y py] kt pt] (.Tuple [a, b] k2 pt2) X.env = pure (some [x, y]))
    (hs : swapsWithSole [.Tuple [.Name x px, .Name y py] kt pt] (.Tuple [a, b] k2 pt2) pos.line X.env = pure false := by rfl)
    (n1 : starEach [a, b] X.env = (false, eval a X.env) :: starEach [b] X.env := by rfl) (n2 : starEach [b] X.env = (false, eval b X.env) :: starEach [] X.env := by rfl) :
    VSj X C (.Assign [.Tuple [.Name x px, .Name y py] kt pt] (.Tuple [a, b] k2 pt2) pos) (sPar i j ma mb) := by
  refine PS.weak (ps_par hc hN hi hj hij hx hy (pa_cons ha (pa_cons (PE.all hb) pa_nil n2) n1) hw hs) fun D σ H ⟨F, env, S, q⟩ => ?_
  unfold sPar at q
  rw [P_bind] at q
  refine ⟨F, env, S, P_mono q (fun r1 e1 _ q v F1 H1 t1 S1 R1 => ?_) fun _ x => x⟩
  by_cases hk : keptS r1 = true
  · rw [if_pos hk, P_bind] at q
    cases r1 with
    | own xs =>
      obtain ⟨a', vs, rfl, h1, h2, h3, h4, h5⟩ := R1
      have hio : C.io ≠ some a' := fun z => (S1.iok a' z).2 h3
      have hF : C.F0 a' = none := S1.mono.free h2
      refine ⟨C.with a' (.lst vs), F1, e1, S1.keepTemp h1 h2 h3 h5, P_mono q (fun r2 e2 _ q w F2 H2 t2 S2 R2 => ?_) fun _ x => (x.mono t1).keep h3⟩
      obtain ⟨S2', k1, k2', k3⟩ := S2.unkeep (F0 := F2) h3 hF hio
      by_cases hl : i < e2.length ∧ j < e2.length ∧ notPk r2 = true
      · rw [if_pos hl] at q
        refine ⟨_, _, rfl, q F2 H2 _ (t1.trans t2) ?_⟩
        have R2' : ResOk X.K C F2 H2 σ e2 w r2 ∧ ∀ c, isOw r2 = true → w = .ref c → c ≠ a' := by
          cases r2 with
          | own ys => obtain ⟨c, ws, e, p1, p2, p3, p4, p5⟩ := R2; exact ⟨⟨c, ws, e, p1, p2, (upd_none p3).2, p4, p5⟩, fun c' _ e' => by rw [e] at e'; cases e'; exact (upd_none p3).1⟩
          | odk ys => obtain ⟨c, ws, e, p1, p2, p3, p4, p5⟩ := R2; exact ⟨⟨c, ws, e, p1, p2, (upd_none p3).2, p4, p5⟩, fun c' _ e' => by rw [e] at e'; cases e'; exact (upd_none p3).1⟩
          | odt ys => obtain ⟨c, ws, e, p1, p2, p3, p4, p5⟩ := R2; exact ⟨⟨c, ws, e, p1, p2, (upd_none p3).2, p4, p5⟩, fun c' _ e' => by rw [e] at e'; cases e'; exact (upd_none p3).1⟩
          | val d => exact ⟨R2, fun c h => nomatch h⟩
          | scr d => exact ⟨R2, fun c h => nomatch h⟩
          | no => exact R2.elim
          | io ys => exact R2.elim
          | pk k => exact ⟨R2, fun c h => nomatch h⟩
        exact S2'.set2 hl.1 hl.2.1 ⟨a', vs, rfl, k1, k2', h3, h4.mono t2, k3⟩ R2'.1 rfl hl.2.2 fun c _ ec oq ew => by
          cases ec
          exact R2'.2 _ oq ew rfl
      · rw [if_neg hl] at q
        exact q.elim
    | val d =>
      refine ⟨C, F1, e1, S1, P_mono q (fun r2 e2 _ q w F2 H2 t2 S2 R2 => ?_) fun _ x => x.mono t1⟩
      by_cases hl : i < e2.length ∧ j < e2.length ∧ notPk r2 = true
      · rw [if_pos hl] at q
        exact ⟨_, _, rfl, q F2 H2 _ (t1.trans t2) (S2.set2 hl.1 hl.2.1 (R1.keep (F' := F2) (H' := H2) rfl t2 (env' := e2)) R2 rfl hl.2.2 fun c h => nomatch h)⟩
      · rw [if_neg hl] at q
        exact q.elim
    | scr d =>
      refine ⟨C, F1, e1, S1, P_mono q (fun r2 e2 _ q w F2 H2 t2 S2 R2 => ?_) fun _ x => x.mono t1⟩
      by_cases hl : i < e2.length ∧ j < e2.length ∧ notPk r2 = true
      · rw [if_pos hl] at q
        exact ⟨_, _, rfl, q F2 H2 _ (t1.trans t2) (S2.set2 hl.1 hl.2.1 (R1.keep (F' := F2) (H' := H2) rfl t2 (env' := e2)) R2 rfl hl.2.2 fun c h => nomatch h)⟩
      · rw [if_neg hl] at q
        exact q.elim
    | _ => cases hk
  · rw [if_neg hk] at q
    exact q.elim
/-! x op= e, x a name that holds a flat value -/
def augF (i : Nat) : Option Sl → VE → Out Fl
  | some (.val d), e => .ok .nx (e.set i (.val d))
  | _, _ => .no
def augE (i : Nat) (f : Da → Da → Option Sl) : Option Sl → Option Da → VE → Out Fl
  | some (.val x), some y, e => if i < e.length then augF i (f x y) e else .no
  | _, _, _ => .no
def sAug (i : Nat) (f : Da → Da → Option Sl) (m : ME) : MS := fun env => match lookAt env[i]? with
  | some _ => (mOp m env).bind fun r e => augE i f e[i]? (look r e) e
  | none => .no
theorem s_aug {i : Nat} {x : Str} {op : Operator} {f : Da → Da → Option Sl} {pos' : Pos} (hN : X.N.Nodup) (hi : X.N[i]? = some x) (hx : Loc X.env.scope x) (ho : OpD X (inplaceOp op) f) (he : VEj X C e m) (hf : X.fn x = true ∨ X.env.scope.names.lookup x = some .local := by first | exact .inl rfl | exact .inr rfl | assumption) :
    VSj X C (.AugAssign (.Name x pos') op e pos) (sAug i f m) := by
  obtain ⟨r, hr, w⟩ := ho.ex
  refine PS.weak (ps_aug hN hi hx he (ti := r) (fun pins s σ H x y v u Q I rx ry h => augR hr I rx ry h) hf) fun D σ H ⟨F, env, S, q⟩ => ?_
  unfold sAug at q
  cases g : lookAt env[i]? with
  | none => rw [g] at q; exact q.elim
  | some d0 =>
    rw [g] at q
    obtain ⟨v0, ev⟩ := lookAt_slot S g
    have q : ((mOp m env).bind fun r e => augE i f e[i]? (look r e) e).P _ _ := q
    rw [P_bind] at q
    refine ⟨v0, ev, op_run S (P_mono q (fun r1 e1 _ q => ?_) fun _ x => x)⟩
    intro v1 F1 H1 s1 S1 R1 o1
    cases g2 : e1[i]? with
    | none => rw [g2] at q; exact q.elim
    | some t =>
      rw [g2] at q
      cases t with
      | val x1 =>
        obtain ⟨v0', ev', z⟩ := S1.slot i _ g2
        rw [ev] at ev'
        cases ev'
        cases g3 : look r1 e1 with
        | none => rw [g3] at q; exact q.elim
        | some y1 =>
          rw [g3] at q
          have q : (if i < e1.length then augF i (f x1 y1) e1 else Out.no).P _ _ := q
          by_cases hl : i < e1.length
          · rw [if_pos hl] at q
            cases g4 : f x1 y1 with
            | none => rw [g4] at q; exact q.elim
            | some res =>
              rw [g4] at q
              refine w C F1 H1 σ e1 v0 v1 x1 y1 res _ S1 (.inl z) (S1.look R1 g3) g4 fun v F2 H2 s2 S2 R2 => ?_
              cases res with
              | val d => exact q F2 H2 _ (s1.trans s2) (S2.set (by rw [S2.len]; exact hl) R2 fun k e => nomatch e)
              | _ => exact q.elim
          · rw [if_neg hl] at q
            exact q.elim
      | _ => exact q.elim
end
end VL
namespace VL
open PySem PySem.Spec PyProof.Rows L2
section
variable {X : Cx} {C : Cc} {a b c e : Expr} {es : List Expr} {ma mb mc m : ME} {ms : List ME} {mA : MA} {pos : Pos} {s1 s2 : MS}
/-! ### what is walked -/
def Grow (G H G' H' : Hp) : Prop := (G' = G ∧ H' = H) ∨ ∃ p o, H p = none ∧ G' = upd G p o ∧ H' = upd H p o
theorem Sta.growBy {K : PySem.W.Frag} {G H G' H' : Hp} {σ : L2.St} {env : VE} (S : Sta K C G H σ env) (g : Grow G H G' H') : Sta K C G' H' σ env ∧ Same G G' := by
  rcases g with ⟨rfl, rfl⟩ | ⟨p, o, n, rfl, rfl⟩
  · exact ⟨S, Same.refl _⟩
  · exact S.allocF n
def ItOk (K : PySem.W.Frag) (F : Hp) (J : It) (xs : List Da) : Prop := ∀ (i : Nat) (G H : Hp), Same F G → Same G H →
  (xs.length ≤ i → J.stop i H) ∧ (∀ d, xs[i]? = some d → J.go i H ∧ ∀ x H', J.yld i H x H' → ∃ G', Grow G H G' H' ∧ Dz K G' x d)
abbrev MI := VE → Out (List Da)
def tI (K : PySem.W.Frag) (C : Cc) (mi : MI) : TI := fun σ H R => ∃ F env, Sta K C F H σ env ∧ (mi env).P (fun xs e => ∀ J F' H', Same F F' → Sta K C F' H' σ e → ItOk K F' J xs → R J H') (XE C F)
def VIj (X : Cx) (C : Cc) (tg iter : Expr) (mi : MI) : Prop := PI X tg iter (tI X.K C mi)
theorem PI.weak {X : Cx} {tg e : Expr} {t t' : TI} (h : PI X tg e t) (w : ∀ σ H R, t' σ H R → t σ H R) : PI X tg e t' := ⟨fun pins s σ H R I q => h.run pins s σ H R I (w σ H R q)⟩
theorem PI.or {X : Cx} {tg e : Expr} {t t' : TI} (h : PI X tg e t) (h' : PI X tg e t') : PI X tg e (fun σ H R => t σ H R ∨ t' σ H R) := ⟨fun pins s σ H R I q => by
  rcases q with q | q
  · exact h.run pins s σ H R I q
  · exact h'.run pins s σ H R I q⟩
theorem it_list {K : PySem.W.Frag} {F : Hp} {a : Addr} {vs : List V} {xs : List Da} (h : SqL K F a vs) (z : DzAll K F vs xs) (inj : ∀ H ys, SqL K H a ys → Same F H → ys = vs) : ItOk K F (Itl K a) xs := fun i G H s1 s2 => by
  have hH : SqL K H a vs := (s1.trans s2).seq h
  refine ⟨fun hi => ⟨vs, hH, by rw [z.length]; exact hi⟩, fun d hd => ?_⟩
  obtain ⟨v, ev, zv⟩ := z.get hd
  refine ⟨⟨vs, v, hH, ev⟩, fun x H' y => ?_⟩
  obtain ⟨rfl, hx⟩ := y
  have ex := hx vs hH
  rw [ev] at ex
  cases ex
  exact ⟨G, .inl ⟨rfl, rfl⟩, zv.mono s1⟩
theorem it_list' {K : PySem.W.Frag} {F : Hp} {a : Addr} {vs : List V} {xs : List Da} (h : SqL K F a vs) (z : DzAll K F vs xs) : ItOk K F (Itl K a) xs := fun i G H s1 s2 => by
  have hH : SqL K H a vs := (s1.trans s2).seq h
  refine ⟨fun hi => ⟨vs, hH, by rw [z.length]; exact hi⟩, fun d hd => ?_⟩
  obtain ⟨v, ev, zv⟩ := z.get hd
  refine ⟨⟨vs, v, hH, ev⟩, fun x H' y => ?_⟩
  obtain ⟨rfl, hx⟩ := y
  have ex := hx vs hH
  rw [ev] at ex
  cases ex
  exact ⟨G, .inl ⟨rfl, rfl⟩, zv.mono s1⟩
theorem it_tup {K : PySem.W.Frag} {F : Hp} {a : Addr} {vs : List V} {xs : List Da} (h : F a = some (.tup vs)) (z : DzAll K F vs xs) : ItOk K F (Itt K a) xs := fun i G H s1 s2 => by
  have hH : SqT K H a vs := .of (s2 _ _ (s1 _ _ h))
  refine ⟨fun hi => ⟨vs, hH, by rw [z.length]; exact hi⟩, fun d hd => ?_⟩
  obtain ⟨v, ev, zv⟩ := z.get hd
  refine ⟨⟨vs, v, hH, ev⟩, fun x H' y => ?_⟩
  obtain ⟨rfl, hx⟩ := y
  have ex := hx vs hH
  rw [ev] at ex
  cases ex
  exact ⟨G, .inl ⟨rfl, rfl⟩, zv.mono s1⟩
theorem rgD_get {a b : Int} {i : Nat} {d : Da} (h : (rgD a b)[i]? = some d) : i < (b - a).toNat ∧ d = .int (a + (i : Nat)) := by
  unfold rgD at h
  rw [List.getElem?_map] at h
  by_cases hi : i < (b - a).toNat
  · rw [List.getElem?_eq_getElem (by rw [List.length_range]; exact hi)] at h
    simp at h
    exact ⟨hi, h.symm⟩
  · rw [List.getElem?_eq_none (by rw [List.length_range]; omega)] at h
    cases h
theorem rgD_len (a b : Int) : (rgD a b).length = (b - a).toNat := by unfold rgD; rw [List.length_map, List.length_range]
theorem it_rg {K : PySem.W.Frag} {F : Hp} (a b : Int) : ItOk K F (Itr a (b - a).toNat) (rgD a b) := fun i G H s1 s2 => by
  rw [rgD_len]
  refine ⟨fun hi => hi, fun d hd => ?_⟩
  obtain ⟨h1, rfl⟩ := rgD_get hd
  refine ⟨h1, fun x H' y => ?_⟩
  obtain ⟨rfl, rfl⟩ := y
  exact ⟨G, .inl ⟨rfl, rfl⟩, .int _⟩
def itemsV : Sl → VE → Out (List Da)
  | .val (.list xs), e => .ok xs e
  | .val (.tuple xs), e => .ok xs e
  | .scr ns, e => .ok (ns.map PyData.int) e
  | _, _ => .no
def mIt (m : ME) : MI := fun env => (mOp m env).bind itemsV
theorem i_seq {tg : Expr} (h : VEj X C e m) : VIj X C tg e (mIt m) := by
  refine PI.weak (PI.or (pi_list h) (pi_tup h)) fun σ H R ⟨F, env, S, q⟩ => ?_
  unfold mIt at q
  rw [P_bind] at q
  cases g : mOp m env with
  | no => rw [g] at q; exact q.elim
  | exc x =>
    rw [g] at q
    exact .inl (op_run S (by rw [g]; exact q))
  | ok r e1 =>
    rw [g] at q
    cases r with
    | val d =>
      cases d with
      | list xs =>
        refine .inl (op_run S ?_)
        rw [g]
        intro v F1 H1 t1 S1 R1 _
        obtain ⟨p, vs, rfl, h1, z1⟩ : ∃ p vs, v = .ref p ∧ F1 p = some (.lst vs) ∧ DzAll X.K F1 vs xs := by
          generalize hd : PyData.list xs = dd at R1
          have R1 : Dz X.K F1 v dd := R1
          cases R1 with
          | lst h1 z1 => cases hd; exact ⟨_, _, rfl, h1, z1⟩
          | _ => cases hd
        exact ⟨p, rfl, ⟨vs, .of (S1.sub _ _ h1)⟩, q _ F1 H1 t1 S1 (it_list' (.of h1) z1)⟩
      | tuple xs =>
        refine .inr (op_run S ?_)
        rw [g]
        intro v F1 H1 t1 S1 R1 _
        obtain ⟨p, vs, rfl, h1, z1⟩ := Dw.tup (H := H1) (.inl R1)
        exact ⟨p, rfl, ⟨vs, .of (S1.sub _ _ h1)⟩, q _ F1 H1 t1 S1 (it_tup h1 z1)⟩
      | _ => exact q.elim
    | scr ns =>
      refine .inl (op_run S ?_)
      rw [g]
      intro v F1 H1 t1 S1 R1 _
      obtain ⟨p, rfl, h1⟩ := R1
      exact ⟨p, rfl, ⟨_, S1.sub.seq h1⟩, q _ F1 H1 t1 S1 (it_list' h1 .of_ints)⟩
    | _ => exact q.elim
def rgI (a b : Int) (e : VE) : Out (List Da) := if -(2 ^ 62) ≤ a ∧ a < 2 ^ 62 ∧ -(2 ^ 62) ≤ b ∧ b < 2 ^ 62 then .ok (rgD a b) e else .no
def rgI1 : Option Da → VE → Out (List Da)
  | some (.int n), e => rgI 0 n e
  | _, _ => .no
def rgI2 : Option Da → Option Da → VE → Out (List Da)
  | some (.int a), some (.int b), e => rgI a b e
  | _, _, _ => .no
def mRg1 (m : ME) : MI := fun env => (mOp m env).bind fun r e => rgI1 (look r e) e
def mRg2 (m m2 : ME) : MI := fun env => (mOp m env).bind fun r e => (mOp m2 e).bind fun r2 e2 => rgI2 (look r e2) (look r2 e2) e2
theorem i_rg1 {tg : Expr} {p : Pos} (hg : Gl X "range") (hm : X.mg "range" = none) (h : VEj X C a m) (na : starEach [a] X.env = (false, eval a X.env) :: starEach [] X.env := by rfl) (hs : starEach [a] X.env = [(false, eval a X.env)] := by rfl) : VIj X C tg (.Call (.Name "range" p) [a] [] pos) (mRg1 m) := by
  refine PI.weak (pi_range1 hg hm (pa_cons h pa_nil na) hs) fun σ H R ⟨F, env, S, q⟩ => ?_
  unfold mRg1 at q
  rw [P_bind] at q
  refine op_run S (P_mono q (fun r e1 _ q => ?_) fun _ x => x)
  intro v F1 H1 t1 S1 R1 o1
  cases g : look r e1 with
  | none => rw [g] at q; exact q.elim
  | some d =>
    rw [g] at q
    have D := S1.look R1 g
    cases d with
    | int n =>
      have q : (if -(2 ^ 62) ≤ (0 : Int) ∧ (0 : Int) < 2 ^ 62 ∧ -(2 ^ 62) ≤ n ∧ n < 2 ^ 62 then Out.ok (rgD 0 n) e1 else .no).P _ _ := q
      by_cases hb : -(2 ^ 62) ≤ (0 : Int) ∧ (0 : Int) < 2 ^ 62 ∧ -(2 ^ 62) ≤ n ∧ n < 2 ^ 62
      · rw [if_pos hb] at q
        have w := it_rg (K := X.K) (F := F1) 0 n
        rw [Int.sub_zero] at w
        exact ⟨n, by rw [D.int], hb.2.2.1, hb.2.2.2, q _ F1 H1 t1 S1 w⟩
      · rw [if_neg hb] at q
        exact q.elim
    | _ => exact q.elim
theorem i_rg2 {tg : Expr} {p : Pos} (hg : Gl X "range") (hm : X.mg "range" = none) (h : VEj X C a m) (h2 : VEj X C b mb) (na : starEach [a, b] X.env = (false, eval a X.env) :: starEach [b] X.env := by rfl) (nb : starEach [b] X.env = (false, eval b X.env) :: starEach [] X.env := by rfl)
    (hs : starEach [a, b] X.env = [(false, eval a X.env), (false, eval b X.env)] := by rfl) (hs2 : starEach [b] X.env = [(false, eval b X.env)] := by rfl) : VIj X C tg (.Call (.Name "range" p) [a, b] [] pos) (mRg2 m mb) := by
  refine PI.weak (pi_range2 hg hm (pa_cons h (pa_cons h2 pa_nil nb) na) hs hs2) fun σ H R ⟨F, env, S, q⟩ => ?_
  unfold mRg2 at q
  rw [P_bind] at q
  refine op_run S (P_mono q (fun r e1 _ q => ?_) fun _ x => x)
  intro v F1 H1 t1 S1 R1 o1
  rw [P_bind] at q
  refine op_run S1 (P_mono q (fun r2 e2 _ q => ?_) fun _ x => x.mono t1)
  intro v2 F2 H2 t2 S2 R2 o2
  cases g : look r e2 with
  | none => rw [g] at q; exact q.elim
  | some d =>
    cases g2 : look r2 e2 with
    | none => rw [g, g2] at q; cases d <;> exact q.elim
    | some d2 =>
      rw [g, g2] at q
      have D := S2.look (R1.keep (F' := F2) (H' := H2) o1 t2 (env' := e2)) g
      have D2 := S2.look R2 g2
      cases d with
      | int i =>
        cases d2 with
        | int j =>
          have q : (if -(2 ^ 62) ≤ i ∧ i < 2 ^ 62 ∧ -(2 ^ 62) ≤ j ∧ j < 2 ^ 62 then Out.ok (rgD i j) e2 else .no).P _ _ := q
          by_cases hb : -(2 ^ 62) ≤ i ∧ i < 2 ^ 62 ∧ -(2 ^ 62) ≤ j ∧ j < 2 ^ 62
          · rw [if_pos hb] at q
            exact ⟨i, j, by rw [D.int, D2.int], hb, q _ F2 H2 (t1.trans t2) S2 (it_rg i j)⟩
          · rw [if_neg hb] at q
            exact q.elim
        | _ => exact q.elim
      | _ => exact q.elim
/-! enumerate -/
def enumD (xs : List Da) : List Da := (List.range xs.length).map fun i => PyData.tuple [.int (i : Nat), xs.getD i .none]
theorem enumD_get {xs : List Da} {i : Nat} {d : Da} (h : (enumD xs)[i]? = some d) : ∃ x, xs[i]? = some x ∧ d = .tuple [.int (i : Nat), x] := by
  unfold enumD at h
  rw [List.getElem?_map] at h
  by_cases hi : i < xs.length
  · rw [List.getElem?_eq_getElem (by rw [List.length_range]; exact hi)] at h
    simp at h
    refine ⟨xs[i], List.getElem?_eq_getElem hi, ?_⟩
    rw [List.getElem?_eq_getElem hi] at h
    exact h.symm
  · rw [List.getElem?_eq_none (by rw [List.length_range]; omega)] at h
    cases h
theorem it_enum {K : PySem.W.Frag} {F : Hp} {a : Addr} {vs : List V} {xs : List Da} (h : SqL K F a vs) (z : DzAll K F vs xs) : ItOk K F (Ite K a) (enumD xs) := fun i G H s1 s2 => by
  have hH : SqL K H a vs := (s1.trans s2).seq h
  refine ⟨fun hi => ⟨vs, hH, ?_⟩, fun d hd => ?_⟩
  · rw [z.length]
    unfold enumD at hi
    rw [List.length_map, List.length_range] at hi
    exact hi
  · obtain ⟨x, ex, rfl⟩ := enumD_get hd
    obtain ⟨v, ev, zv⟩ := z.get ex
    refine ⟨⟨vs, v, hH, ev⟩, fun y H' yl => ?_⟩
    obtain ⟨T, w, rfl, nT, rfl, hw⟩ := yl
    have e := hw vs hH
    rw [ev] at e
    cases e
    have sG : Same G (upd G T (.tup [.int (i : Nat), v])) := same_upd (s2.free nT)
    exact ⟨_, .inr ⟨T, _, nT, rfl, rfl⟩, .tup upd_same (.cons (.int _) (.one (zv.mono (s1.trans sG))))⟩
def itemsE : Sl → VE → Out (List Da)
  | .val (.list xs), e => .ok (enumD xs) e
  | _, _ => .no
def mEnum (m : ME) : MI := fun env => (mOp m env).bind itemsE
theorem i_enum {p tpos : Pos} {elts : List Expr} {kk : Nat} (hg : Gl X "enumerate") (hm : X.mg "enumerate" = none) (h : VEj X C a m) (na : starEach [a] X.env = (false, eval a X.env) :: starEach [] X.env := by rfl) (hs : starEach [a] X.env = [(false, eval a X.env)] := by rfl) : VIj X C (.Tuple elts kk tpos) (.Call (.Name "enumerate" p) [a] [] pos) (mEnum m) := by
  refine PI.weak (pi_enum hg hm (pa_cons h pa_nil na) hs) fun σ H R ⟨F, env, S, q⟩ => ?_
  unfold mEnum at q
  rw [P_bind] at q
  refine op_run S (P_mono q (fun r e1 _ q => ?_) fun _ x => x)
  intro v F1 H1 t1 S1 R1 o1
  cases r with
  | val d =>
    cases d with
    | list xs =>
      obtain ⟨p, vs, rfl, h1, z1⟩ : ∃ p vs, v = .ref p ∧ F1 p = some (.lst vs) ∧ DzAll X.K F1 vs xs := by
        generalize hd : PyData.list xs = dd at R1
        have R1 : Dz X.K F1 v dd := R1
        cases R1 with
        | lst h1 z1 => cases hd; exact ⟨_, _, rfl, h1, z1⟩
        | _ => cases hd
      exact ⟨p, vs, rfl, .of (S1.sub _ _ h1), q _ F1 H1 t1 S1 (it_enum (.of h1) z1)⟩
    | _ => exact q.elim
  | _ => exact q.elim
/-! ### for, while -/
def forK (k : VE → Out Fl) : Fl → VE → Out Fl
  | .nx, e => k e
  | .ct, e => k e
  | .bk, e => .ok .nx e
  | .rt r, e => .ok (.rt r) e
def forL (f : Da → VE → Out Fl) : List Da → VE → Out Fl
  | [], e => .ok .nx e
  | x :: xs, e => (f x e).bind (forK (forL f xs))
def turnF (g : MG) (body : MS) (x : Da) (e : VE) : Out Fl := (g (.val x) e).bind fun _ e2 => body e2
def sFor (mi : MI) (g : MG) (body : MS) : MS := fun env => (mi env).bind fun xs e => forL (turnF g body) xs e
theorem drop_cons {α : Type} {xs : List α} {i : Nat} {d : α} (h : xs[i]? = some d) : xs.drop i = d :: xs.drop (i + 1) := by
  obtain ⟨hi, rfl⟩ := List.getElem?_eq_some_iff.mp h
  exact List.drop_eq_getElem_cons hi
theorem s_for {tg iter : Expr} {body : List Stmt} {mi : MI} {g : MG} (hi : VIj X C tg iter mi) (hg : VGj X C tg g) (hb : VSs X C body s1)
    (hps : {wi : TI} → {t : TG} → {tb : TS} → PI X tg iter wi → PG X tg t → PSs X body tb → PS X (.For tg iter body [] pos) (tFor wi t tb)) : VSj X C (.For tg iter body [] pos) (sFor mi g s1) := by
  refine PS.weak (hps hi hg hb) fun D σ H ⟨F, env, S, q⟩ => ?_
  unfold sFor at q
  rw [P_bind] at q
  refine ⟨F, env, S, P_mono q (fun xs e _ q J F1 H1 t1 S1 it => ?_) fun _ x => x⟩
  let fin : Hp → Fl → VE → Prop := fun G fl e => ∀ F' H' σ', Same G F' → Sta X.K C F' H' σ' e → FlOk X.K C D F' H' σ' e fl
  refine ⟨fun i m σ H => m = xs.length - i ∧ i ≤ xs.length ∧ ∃ G env', Same F1 G ∧ Sta X.K C G H σ env' ∧ (forL (turnF g s1) (xs.drop i) env').P (fin G) (XE C G),
    ⟨xs.length, by simp, Nat.zero_le _, F1, e, Same.refl _, S1, ?_⟩, ?_⟩
  · rw [List.drop_zero]
    exact P_mono q (fun fl e2 _ q F' H' σ' t2 S2 => q F' H' σ' (t1.trans t2) S2) fun _ x => x.mono t1
  · rintro i m σ2 H2 ⟨rfl, hle, G, env', t2, S2, q2⟩
    obtain ⟨st, go⟩ := it i G H2 t2 S2.sub
    by_cases hlt : i < xs.length
    · refine .inr ?_
      have hd : xs[i]? = some xs[i] := List.getElem?_eq_getElem hlt
      obtain ⟨g1, g2⟩ := go _ hd
      rw [drop_cons hd] at q2
      refine ⟨g1, fun σ' H' => ∃ G' env'', Same F1 G' ∧ Sta X.K C G' H' σ' env'' ∧ (forL (turnF g s1) (xs.drop (i + 1)) env'').P (fin G') (XE C G'), fun σ' H' ⟨G', env'', a1, a2, a3⟩ => ⟨xs.length - (i + 1), by omega, rfl, hlt, G', env'', a1, a2, a3⟩, fun x H' y => ?_⟩
      obtain ⟨G', gr, zx⟩ := g2 x H' y
      obtain ⟨S3, t3⟩ := S2.growBy gr
      have q3 : ((turnF g s1 xs[i] env').bind (forK (forL (turnF g s1) (xs.drop (i + 1))))).P (fin G) (XE C G) := q2
      rw [P_bind] at q3
      unfold turnF at q3
      rw [P_bind] at q3
      refine ⟨G', env', .val xs[i], S3, zx, P_mono q3 (fun _ e3 _ q4 F4 H4 σ4 t4 S4 => ?_) fun _ x => x.mono t3⟩
      refine ⟨F4, e3, S4, P_mono q4 (fun fl e5 _ q5 F5 H5 σ5 t5 S5 => ?_) fun _ x => x.mono (t3.trans t4)⟩
      have tt := (t3.trans t4).trans t5
      cases fl with
      | nx => exact ⟨F5, e5, t2.trans tt, S5, P_mono q5 (fun fl e6 _ q6 F' H' σ' t6 S6 => q6 F' H' σ' (tt.trans t6) S6) fun _ x => x.mono tt⟩
      | ct => exact ⟨F5, e5, t2.trans tt, S5, P_mono q5 (fun fl e6 _ q6 F' H' σ' t6 S6 => q6 F' H' σ' (tt.trans t6) S6) fun _ x => x.mono tt⟩
      | bk => exact q5 F5 H5 σ5 tt S5
      | rt r => exact q5 F5 H5 σ5 tt S5
    · have ei : i = xs.length := by omega
      refine .inl ⟨st (by omega), ?_⟩
      rw [ei, List.drop_length] at q2
      exact q2 G H2 σ2 (Same.refl _) S2
def whileN (t : MT) (b : MS) : Nat → VE → Out Fl
  | 0, _ => .no
  | n + 1, env => (t env).bind fun c e => if c = true then (b e).bind (forK (whileN t b n)) else .ok .nx e
theorem big_ex : ∃ n : Nat, n = 1099511627776 := ⟨_, rfl⟩
/-- how many turns a while may take; nothing reckons with it -/
noncomputable def big : Nat := Classical.choose big_ex
theorem big_eq : big = 1099511627776 := Classical.choose_spec big_ex
noncomputable def sWhile (t : MT) (b : MS) : MS := whileN t b big
theorem s_while {t : Expr} {body : List Stmt} {mt : MT} (hp : PassesOwn (model X.prog X.w) X.A X.env X.xe) (ht : VTj X C t mt) (hb : VSs X C body s1) : VSj X C (.While t body [] pos) (sWhile mt s1) := by
  refine PS.weak (ps_while hp ht hb) fun D σ H ⟨F, env, S, q⟩ => ?_
  let fin : Hp → Fl → VE → Prop := fun G fl e => ∀ F' H' σ', Same G F' → Sta X.K C F' H' σ' e → FlOk X.K C D F' H' σ' e fl
  refine ⟨fun n σ H => ∃ G env', Sta X.K C G H σ env' ∧ (whileN mt s1 n env').P (fin G) (XE C G), ⟨big, F, env, S, q⟩, ?_⟩
  rintro n σ2 H2 ⟨G, env', S2, q2⟩
  cases n with
  | zero => exact q2.elim
  | succ n =>
    have q3 : ((mt env').bind fun c e => if c = true then (s1 e).bind (forK (whileN mt s1 n)) else .ok .nx e).P (fin G) (XE C G) := q2
    rw [P_bind] at q3
    refine ⟨G, env', S2, P_mono q3 (fun c e3 _ q4 F4 H4 t4 S4 => ?_) fun _ x => x⟩
    cases c with
    | true =>
      rw [if_pos rfl, P_bind] at q4
      refine iteT ⟨fun σ' H' => ∃ G' env'', Sta X.K C G' H' σ' env'' ∧ (whileN mt s1 n env'').P (fin G') (XE C G'), fun σ' H' q => ⟨n, Nat.lt_succ_self n, q⟩, F4, e3, S4, P_mono q4 (fun fl e5 _ q5 F5 H5 σ5 t5 S5 => ?_) fun _ x => x.mono t4⟩
      have tt := t4.trans t5
      cases fl with
      | nx => exact ⟨F5, e5, S5, P_mono q5 (fun fl e6 _ q6 F' H' σ' t6 S6 => q6 F' H' σ' (tt.trans t6) S6) fun _ x => x.mono tt⟩
      | ct => exact ⟨F5, e5, S5, P_mono q5 (fun fl e6 _ q6 F' H' σ' t6 S6 => q6 F' H' σ' (tt.trans t6) S6) fun _ x => x.mono tt⟩
      | bk => exact q5 F5 H5 σ5 tt S5
      | rt r => exact q5 F5 H5 σ5 tt S5
    | false =>
      rw [if_neg Bool.false_ne_true] at q4
      exact iteF (q4 F4 H4 σ2 t4 S4)
end
end VL
namespace VL
open PySem PySem.Spec PyProof.Rows L2
section
variable {K : PySem.W.Frag} {C : Cc} {F F' H H' : Hp} {σ : L2.St} {env : VE}
/-- the heap grows, objects that no slot owns may be written -/
theorem Sta.growX (S : Sta K C F H σ env) (ex : Addr → Prop) (sF : Same F F') (sub : Same F' H') (hH : ∀ a o, H a = some o → F' a = none → ¬ ex a → H' a = some o)
    (hF : ∀ a, F' a ≠ none → F a ≠ none ∨ (C.H0 a = none ∧ Apart σ env a)) (hx : ∀ a, ex a → H' a ≠ none ∧ (C.H0 a = none ∨ C.io = some a) ∧ Apart σ env a) : Sta K C F' H' σ env := by
  have keep : ∀ {i : Nat} {s : Sl} {a : Addr}, env[i]? = some s → isOw s = true → σ[i]? = some (some (V.ref a)) → F' a = none := fun {i s a} h o e => by
    cases q : F' a with
    | none => rfl
    | some u =>
      rcases hF a (by rw [q]; simp) with z | z
      · exact absurd (S.at h o e).2.1 z
      · exact absurd e (z.2 i s h o)
  have nx : ∀ {i : Nat} {s : Sl} {a : Addr}, env[i]? = some s → isOw s = true → σ[i]? = some (some (V.ref a)) → ¬ ex a := fun {i s a} h o e z => (hx a z).2.2 i s h o e
  refine ⟨S.len, sub, S.mono.trans sF, fun a o h io => ?_, fun a h => ?_, fun a h => ⟨fun n => ?_, (S.iok a h).2⟩, fun i s h => ?_, S.dist⟩
  · have h1 := S.frame a o h io
    cases q : F' a with
    | none =>
      refine hH a o h1 q fun z => ?_
      rcases (hx a z).2.1 with w | w
      · rw [w] at h; cases h
      · exact io w
    | some u =>
      rcases hF a (by rw [q]; simp) with z | z
      · cases q2 : F a with
        | none => exact absurd q2 z
        | some u2 =>
          have e1 := S.sub a u2 q2
          rw [h1] at e1; cases e1
          exact sub a o (sF a o q2)
      · rw [z.1] at h; cases h
  · rcases hF a h with z | z
    · exact S.fnew a z
    · exact .inr z.1
  · by_cases he : ex a
    · exact (hx a he).1 n
    · cases q : F' a with
      | none =>
        cases q2 : H a with
        | none => exact (S.iok a h).1 q2
        | some o => rw [hH a o q2 q he] at n; cases n
      | some u => rw [sub a u q] at n; cases n
  · have q := S.slot i s h
    cases s with
    | no => trivial
    | val d => obtain ⟨v, e, z⟩ := q; exact ⟨v, e, z.mono sF⟩
    | own xs => obtain ⟨a, vs, e, h1, h2, h3, h4⟩ := q; exact ⟨a, vs, e, hH a _ h1 (keep h rfl e) (nx h rfl e), keep h rfl e, h3, h4.mono sF⟩
    | io xs => obtain ⟨a, vs, e, h0, h1, h2, h4⟩ := q; exact ⟨a, vs, e, h0, hH a _ h1 (keep h rfl e) (nx h rfl e), keep h rfl e, h4.mono sF⟩
    | odk kvs => obtain ⟨a, vs, e, h1, h2, h3, h4⟩ := q; exact ⟨a, vs, e, hH a _ h1 (keep h rfl e) (nx h rfl e), keep h rfl e, h3, h4.mono sF⟩
    | odt kvs => obtain ⟨a, vs, e, h1, h2, h3, h4⟩ := q; exact ⟨a, vs, e, hH a _ h1 (keep h rfl e) (nx h rfl e), keep h rfl e, h3, h4.mono sF⟩
    | scr ns => obtain ⟨a, e, z⟩ := q; exact ⟨a, e, sF.seq z⟩
    | pk j => exact q
/-- a thing that no slot owns is written -/
theorem Sta.writeTemp (S : Sta K C F H σ env) {a : Addr} {o : HO} (hF : F a = none) (h0 : C.H0 a = none) (ap : Apart σ env a) : Sta K C F (upd H a o) σ env := by
  refine S.growX (fun b => b = a) (Same.refl F) (fun b u q => ?_) (fun b u q _ n => by rw [upd_ne n]; exact q) (fun b q => .inl q) fun b e => ?_
  · rw [upd_ne (ne_of_none q hF)]; exact S.sub b u q
  · subst e; exact ⟨by rw [upd_same]; simp, .inl h0, ap⟩
theorem Sta.toNox (S : Sta K C F H σ env) : Sta K C.nox F H σ env := ⟨S.len, S.sub, S.mono, S.frame, S.fnew, S.iok, S.slot, S.dist⟩
theorem Sta.ofNox (S : Sta K C.nox F H σ env) : Sta K C F H σ env := ⟨S.len, S.sub, S.mono, S.frame, S.fnew, S.iok, S.slot, S.dist⟩
end
/-! ### slots forgotten and given back -/
theorem wipe_get (σ : L2.St) : ∀ (vs : List Nat) (j : Nat), (wipe σ vs)[j]? = if j ∈ vs ∧ j < σ.length then some none else σ[j]?
  | [], j => by simp [wipe]
  | v :: vs, j => by
    unfold wipe
    by_cases e : j = v
    · subst e
      by_cases h : j < σ.length
      · rw [List.getElem?_set_self (by rw [wipe_length]; exact h), if_pos ⟨List.mem_cons_self, h⟩]
      · rw [List.getElem?_eq_none (by rw [List.length_set, wipe_length]; omega), if_neg (fun z => h z.2), List.getElem?_eq_none (by omega)]
    · rw [List.getElem?_set_ne (Ne.symm e), wipe_get σ vs j]
      by_cases h : j ∈ vs ∧ j < σ.length
      · rw [if_pos h, if_pos ⟨List.mem_cons_of_mem _ h.1, h.2⟩]
      · rw [if_neg h, if_neg (fun z => h ⟨(List.mem_cons.mp z.1).resolve_left e, z.2⟩)]
theorem wipe_eq {σ τ : L2.St} {vs : List Nat} (hl : σ.length = τ.length) (h : ∀ j, j ∉ vs → σ[j]? = τ[j]?) : wipe σ vs = wipe τ vs := by
  apply List.ext_getElem?
  intro j
  rw [wipe_get, wipe_get, hl]
  by_cases hj : j ∈ vs
  · by_cases h2 : j < τ.length
    · rw [if_pos ⟨hj, h2⟩, if_pos ⟨hj, h2⟩]
    · rw [if_neg (fun z => h2 z.2), if_neg (fun z => h2 z.2), List.getElem?_eq_none (by omega), List.getElem?_eq_none (by omega)]
  · rw [if_neg (fun z => hj z.1), if_neg (fun z => hj z.1), h j hj]
theorem wipe_ne {σ : L2.St} {vs : List Nat} {j : Nat} (h : j ∉ vs) : (wipe σ vs)[j]? = σ[j]? := by rw [wipe_get, if_neg (fun z => h z.1)]
def wipeE (env : VE) : List Nat → VE
  | [] => env
  | i :: r => (wipeE env r).set i .no
def restE (e env : VE) : List Nat → VE
  | [] => e
  | i :: r => (restE e env r).set i (env.getD i .no)
def freeS : Sl → Bool
  | .no | .val _ | .scr _ => true
  | _ => false
def freeAt (env : VE) (vs : List Nat) : Bool := vs.all fun i => freeS (env.getD i .no)
theorem wipeE_len (env : VE) : ∀ vs : List Nat, (wipeE env vs).length = env.length
  | [] => rfl
  | v :: vs => by unfold wipeE; rw [List.length_set, wipeE_len env vs]
theorem restE_len (e env : VE) : ∀ vs : List Nat, (restE e env vs).length = e.length
  | [] => rfl
  | v :: vs => by unfold restE; rw [List.length_set, restE_len e env vs]
theorem wipeE_get {env : VE} : ∀ {vs : List Nat} {j : Nat} {t : Sl}, (wipeE env vs)[j]? = some t → (j ∈ vs ∧ t = .no) ∨ (j ∉ vs ∧ env[j]? = some t)
  | [], j, t, h => .inr ⟨by simp, h⟩
  | v :: vs, j, t, h => by
    unfold wipeE at h
    rcases get_set h with ⟨rfl, rfl⟩ | ⟨n, h⟩
    · exact .inl ⟨List.mem_cons_self, rfl⟩
    · rcases wipeE_get h with ⟨a, b⟩ | ⟨a, b⟩
      · exact .inl ⟨List.mem_cons_of_mem _ a, b⟩
      · exact .inr ⟨fun z => (List.mem_cons.mp z).elim n a, b⟩
theorem restE_get {e env : VE} : ∀ {vs : List Nat} {j : Nat} {t : Sl}, (restE e env vs)[j]? = some t → (j ∈ vs ∧ t = env.getD j .no) ∨ (j ∉ vs ∧ e[j]? = some t)
  | [], j, t, h => .inr ⟨by simp, h⟩
  | v :: vs, j, t, h => by
    unfold restE at h
    rcases get_set h with ⟨rfl, rfl⟩ | ⟨n, h⟩
    · exact .inl ⟨List.mem_cons_self, rfl⟩
    · rcases restE_get h with ⟨a, b⟩ | ⟨a, b⟩
      · exact .inl ⟨List.mem_cons_of_mem _ a, b⟩
      · exact .inr ⟨fun z => (List.mem_cons.mp z).elim n a, b⟩
section
variable {K : PySem.W.Frag} {C : Cc} {F F' H H' : Hp} {σ σ2 : L2.St} {env e : VE} {vs : List Nat}
theorem Sta.wipe (S : Sta K C F H σ env) : Sta K C F H (L2.wipe σ vs) (wipeE env vs) := by
  refine ⟨by rw [wipe_length, wipeE_len]; exact S.len, S.sub, S.mono, S.frame, S.fnew, S.iok, fun j t h => ?_, fun j k a t u ne h1 o1 h2 o2 g1 g2 => ?_⟩
  · rcases wipeE_get h with ⟨_, rfl⟩ | ⟨n, h⟩
    · trivial
    · rw [wipe_ne n]; exact S.slot j t h
  · rcases wipeE_get h1 with ⟨_, rfl⟩ | ⟨n1, h1⟩
    · cases o1
    · rcases wipeE_get h2 with ⟨_, rfl⟩ | ⟨n2, h2⟩
      · cases o2
      · rw [wipe_ne n1] at g1
        rw [wipe_ne n2] at g2
        exact S.dist j k a t u ne h1 o1 h2 o2 g1 g2
theorem freeS_ow {s : Sl} (h : freeS s = true) : isOw s = false := by cases s <;> first | rfl | cases h
theorem Sta.rest (S2 : Sta K C F' H' σ2 e) (S : Sta K C F H σ env) (sF : Same F F') (fr : freeAt env vs = true) (w : L2.wipe σ2 vs = L2.wipe σ vs) : Sta K C F' H' σ (restE e env vs) ∧ ∀ a, Apart σ2 e a → Apart σ (restE e env vs) a := by
  have hl : σ2.length = σ.length := by have := congrArg List.length w; rw [wipe_length, wipe_length] at this; exact this
  have out : ∀ j, j ∉ vs → σ[j]? = σ2[j]? := fun j h => by rw [← wipe_ne (σ := σ) h, ← wipe_ne (σ := σ2) h, w]
  have fj : ∀ j, j ∈ vs → freeS (env.getD j .no) = true := fun j h => List.all_eq_true.mp fr j h
  refine ⟨⟨by rw [restE_len, ← S2.len, hl], S2.sub, S2.mono, S2.frame, S2.fnew, S2.iok, fun j t h => ?_, fun j k a t u ne h1 o1 h2 o2 g1 g2 => ?_⟩, fun a ap j t h ot => ?_⟩
  · rcases restE_get h with ⟨m, rfl⟩ | ⟨n, h⟩
    · have f := fj j m
      cases q : env[j]? with
      | none => rw [List.getD_eq_getElem?_getD, q]; trivial
      | some s =>
        rw [List.getD_eq_getElem?_getD, q] at f ⊢
        have sl := S.slot j s q
        show SlOk K C F' H' (σ[j]?) s
        cases s with
        | no => trivial
        | val d => obtain ⟨v, ev, z⟩ := sl; exact ⟨v, ev, z.mono sF⟩
        | scr ns => obtain ⟨a, ev, z⟩ := sl; exact ⟨a, ev, sF.seq z⟩
        | _ => cases f
    · rw [out j n]; exact S2.slot j t h
  · rcases restE_get h1 with ⟨m, rfl⟩ | ⟨n1, h1⟩
    · rw [freeS_ow (fj j m)] at o1; cases o1
    · rcases restE_get h2 with ⟨m, rfl⟩ | ⟨n2, h2⟩
      · rw [freeS_ow (fj k m)] at o2; cases o2
      · rw [out j n1] at g1
        rw [out k n2] at g2
        exact S2.dist j k a t u ne h1 o1 h2 o2 g1 g2
  · rcases restE_get h with ⟨m, rfl⟩ | ⟨n, h⟩
    · rw [freeS_ow (fj j m)] at ot; cases ot
    · rw [out j n]; exact ap j t h ot
end
/-! ### targets of comprehensions -/
inductive CT where
  | one (i : Nat)
  | tup (is : List Nat)
def gsN : List Nat → TGs
  | [] => gNil
  | i :: r => gCons (gName i) (gsN r)
def gCT (K : PySem.W.Frag) : CT → TG
  | .one i => gName i
  | .tup is => gTup K is.length (gsN is)
def setAll : L2.St → List Nat → List V → L2.St
  | σ, i :: is, v :: vs => setAll (σ.set i (some v)) is vs
  | σ, _, _ => σ
def setAllE : VE → List Nat → List Da → VE
  | e, i :: is, d :: ds => setAllE (e.set i (.val d)) is ds
  | e, _, _ => e
theorem gsN_ok : ∀ {is : List Nat} {vs : List V} {σ : L2.St} {H : Hp} {Q : L2.St → Hp → Prop}, vs.length = is.length → Q (setAll σ is vs) H → gsN is vs σ H Q
  | [], [], σ, H, Q, _, q => ⟨rfl, q⟩
  | i :: is, v :: vs, σ, H, Q, h, q => ⟨v, vs, rfl, gsN_ok (by simpa using h) q⟩
  | [], _ :: _, _, _, _, h, _ => by simp at h
  | _ :: _, [], _, _, _, h, _ => by simp at h
theorem setAll_len : ∀ (is : List Nat) (vs : List V) (σ : L2.St), (setAll σ is vs).length = σ.length
  | [], vs, σ => by cases vs <;> rfl
  | i :: is, [], σ => rfl
  | i :: is, v :: vs, σ => by unfold setAll; rw [setAll_len is vs, List.length_set]
theorem setAllE_len : ∀ (is : List Nat) (vs : List Da) (σ : VE), (setAllE σ is vs).length = σ.length
  | [], vs, σ => by cases vs <;> rfl
  | i :: is, [], σ => rfl
  | i :: is, v :: vs, σ => by unfold setAllE; rw [setAllE_len is vs, List.length_set]
theorem setAll_ne {j : Nat} : ∀ (is : List Nat) (vs : List V) (σ : L2.St), j ∉ is → (setAll σ is vs)[j]? = σ[j]?
  | [], vs, σ, _ => by cases vs <;> rfl
  | i :: is, [], σ, _ => rfl
  | i :: is, v :: vs, σ, h => by
    unfold setAll
    rw [setAll_ne is vs _ (fun z => h (List.mem_cons_of_mem _ z)), List.getElem?_set_ne (fun z : i = j => h (by rw [z]; exact List.mem_cons_self))]
theorem Sta.setAll {K : PySem.W.Frag} {C : Cc} {F H : Hp} : ∀ {is : List Nat} {vs : List V} {ds : List Da} {σ : L2.St} {env : VE}, Sta K C F H σ env → (∀ i ∈ is, i < env.length) → DzAll K F vs ds → Sta K C F H (VL.setAll σ is vs) (setAllE env is ds)
  | [], vs, ds, σ, env, S, _, z => by cases z <;> exact S
  | i :: is, _, _, σ, env, S, h, .nil => S
  | i :: is, v :: vs, d :: ds, σ, env, S, h, .cons a t => by
    show Sta K C F H (VL.setAll (σ.set i (some v)) is vs) (setAllE (env.set i (.val d)) is ds)
    refine Sta.setAll (S.set (i := i) (by rw [S.len]; exact h i List.mem_cons_self) (r := .val _) a fun j e => nomatch e) (fun k hk => ?_) t
    rw [List.length_set]
    exact h k (List.mem_cons_of_mem _ hk)
def CT.slots : CT → List Nat
  | .one i => [i]
  | .tup is => is
def bindCT : CT → Da → VE → Option VE
  | .one i, d, e => if i < e.length then some (e.set i (.val d)) else none
  | .tup is, .tuple ds, e => if ds.length = is.length ∧ (is.all fun i => decide (i < e.length)) = true then some (setAllE e is ds) else none
  | _, _, _ => none
theorem bindCT_ok {K : PySem.W.Frag} {C : Cc} {F H : Hp} {ct : CT} {d : Da} {v : V} {σ : L2.St} {env e : VE} {Q : L2.St → Hp → Prop} (S : Sta K C F H σ env) (z : Dz K F v d) (h : bindCT ct d env = some e)
    (q : ∀ σ2, Sta K C F H σ2 e → (∀ vs : List Nat, (∀ i ∈ ct.slots, i ∈ vs) → L2.wipe σ2 vs = L2.wipe σ vs) → Q σ2 H) : gCT K ct v σ H Q := by
  cases ct with
  | one i =>
    obtain ⟨hi, rfl⟩ := ite_some (h : (if i < env.length then some (env.set i (.val d)) else none) = some e)
    refine q _ (S.set (by rw [S.len]; exact hi) (r := .val d) z fun j e => nomatch e) fun vs hv => wipe_eq (by rw [List.length_set]) fun j hj => ?_
    rw [List.getElem?_set_ne (fun e : i = j => hj (by rw [← e]; exact hv i (by simp [CT.slots])))]
  | tup is =>
    cases d with
    | tuple ds =>
      obtain ⟨hi, rfl⟩ := ite_some (h : (if ds.length = is.length ∧ (is.all fun i => decide (i < env.length)) = true then some (setAllE env is ds) else none) = some e)
      obtain ⟨p, ws, rfl, h1, z1⟩ := Dw.tup (H := H) (.inl z)
      have hb : ∀ i ∈ is, i < env.length := fun i m => of_decide_eq_true (List.all_eq_true.mp hi.2 i m)
      refine ⟨p, ws, rfl, .of (S.sub _ _ h1), by rw [z1.length]; exact hi.1, gsN_ok (by rw [z1.length]; exact hi.1) ?_⟩
      refine q _ (S.setAll hb z1) fun vs hv => wipe_eq (setAll_len _ _ _) fun j hj => setAll_ne _ _ _ fun m => hj (hv j m)
    | _ => cases h
section
variable {X : Cx} {C : Cc} {a b c e : Expr} {es : List Expr} {ma mb mc m : ME} {ms : List ME} {mA : MA} {pos : Pos} {s1 s2 : MS}
theorem pn_nil : PGs X [] (gsN []) := pgs_nil
theorem pn_cons {i : Nat} {is : List Nat} {x : Str} (hN : X.N.Nodup) (hi : X.N[i]? = some x) (hx : Loc X.env.scope x) (h2 : PGs X es (gsN is)) (hf : X.fn x = true ∨ X.env.scope.names.lookup x = some .local := by first | exact .inl rfl | exact .inr rfl | assumption)
    (hs : (assignEach (.Name x pos :: es) X.env).map (·.2) = assign (.Name x pos) X.env :: (assignEach es X.env).map (·.2) := by rfl) : PGs X (.Name x pos :: es) (gsN (i :: is)) := pgs_cons (pg_name hN hi hx hf) h2 hs
theorem ct_one {i : Nat} {x : Str} (hN : X.N.Nodup) (hi : X.N[i]? = some x) (hx : Loc X.env.scope x) (hf : X.fn x = true ∨ X.env.scope.names.lookup x = some .local := by first | exact .inl rfl | exact .inr rfl | assumption) : PG X (.Name x pos) (gCT X.K (.one i)) := pg_name hN hi hx hf
theorem ct_tup {k : Nat} {is : List Nat} (hc : X.calm = true) (h : PGs X es (gsN is)) (hn : (assignEach es X.env).length = is.length := by rfl) (hst : (assignEach es X.env).findIdx? (·.1) = none := by rfl) : PG X (.Tuple es k pos) (gCT X.K (.tup is)) := pg_tup hc h hn hst
/-! ### list comprehensions -/
def noX {α : Type} : Out α → Out α
  | .exc _ => .no
  | o => o
theorem noX_P {α : Type} {o : Out α} {p : α → VE → Prop} {x x' : Da → Prop} (h : (noX o).P p x) : o.P p x' := by
  cases o with
  | ok a e => exact h
  | exc d => exact h.elim
  | no => exact h
def yesT : MT := fun e => .ok true e
def compStep (k : List Da → VE → Out Sl) (acc : List Da) : Sl → VE → Out Sl
  | .val d, e => if acc.length < sizeLine then k (acc ++ [d]) e else .no
  | _, _ => .no
def compTurn (ct : CT) (t : MT) (m : ME) (vs : List Nat) (k : List Da → VE → Out Sl) (acc : List Da) (env : VE) : Option VE → Out Sl
  | none => .no
  | some e1 => (noX (t e1)).bind fun b e2 => if b = true then (noX (mOp m e2)).bind fun r e3 => compStep k acc r (restE e3 env vs) else k acc (restE e2 env vs)
def compL (ct : CT) (t : MT) (m : ME) (vs : List Nat) : List Da → List Da → VE → Out Sl
  | [], acc, env => .ok (.own acc) env
  | x :: xs, acc, env => if freeAt env vs = true then compTurn ct t m vs (compL ct t m vs xs) acc env (bindCT ct x (wipeE env vs)) else .no
def mComp (mi : MI) (ct : CT) (t : MT) (m : ME) (vs : List Nat) : ME := fun env => (mi env).bind fun xs e => compL ct t m vs xs [] e
theorem tM_all {K : PySem.W.Frag} {t : Cc → TE} {σ : L2.St} {H : Hp} {Q : VK} (C : Cc) (h : t C σ H Q) : ∃ C, t C σ H Q := ⟨C, h⟩
theorem PT.all {e : Expr} {t : Cc → TT} (h : ∀ C, PT X e (t C)) : PT X e (fun σ H Q => ∃ C, t C σ H Q) := ⟨fun pins s σ H Q I ⟨C, q⟩ => (h C).run pins s σ H Q I q⟩
theorem PTs.all {es : List Expr} {t : Cc → TT} (h : ∀ C, PTs X es (t C)) : PTs X es (fun σ H Q => ∃ C, t C σ H Q) := ⟨fun pins s σ H Q I ⟨C, q⟩ => (h C).run pins s σ H Q I q⟩
def VTs (X : Cx) (C : Cc) (ifs : List Expr) (t : MT) : Prop := PTs X ifs (tT X.K C t)
theorem PTs.weak {es : List Expr} {t t' : TT} (h : PTs X es t) (w : ∀ σ H Q, t' σ H Q → t σ H Q) : PTs X es t' := ⟨fun pins s σ H Q I q => h.run pins s σ H Q I (w σ H Q q)⟩
theorem ts_nil : VTs X C [] yesT := PTs.weak pts_nil fun σ H Q ⟨F, env, S, q⟩ => q F H (Same.refl F) S
theorem ts_one {mt : MT} (h : VTj X C a mt) : VTs X C [a] mt := pts_one h
theorem comp_w {K : PySem.W.Frag} {mi : MI} {ct : CT} {t : MT} {vs : List Nat} (hct : ∀ i ∈ ct.slots, i ∈ vs) {σ : L2.St} {H : Hp} {Q : VK} (h : tM K C (mComp mi ct t m vs) σ H Q) :
    tLc (tI K C mi) (gCT K ct) (fun σ H Q => ∃ C, tT K C t σ H Q) (fun σ H Q => ∃ C, tM K C m σ H Q) vs σ H Q := by
  obtain ⟨F, env, S, q⟩ := h
  unfold mComp at q
  rw [P_bind] at q
  refine ⟨F, env, S, P_mono q (fun xs e _ q J F1 H1 t1 S1 it D hD => ?_) fun _ x => x⟩
  obtain ⟨nF, n0, nA⟩ := S1.new hD
  have hF0 : C.F0 D = none := S1.mono.free nF
  have hio : C.io ≠ some D := fun z => (S1.iok D z).1 hD
  let fin : Hp → Sl → VE → Prop := fun G r e => ∀ v F' H', Same G F' → Sta K C F' H' σ e → ResOk K C F' H' σ e v r → Q v H'
  refine ⟨fun i k H => k = xs.length - i ∧ i ≤ xs.length ∧ ∃ G env' acc accV, Same F1 G ∧ Sta K C G H σ env' ∧ H D = some (.lst accV) ∧ G D = none ∧ DzAll K G accV acc ∧ Apart σ env' D ∧ (compL ct t m vs (xs.drop i) acc env').P (fin G) (XE C G),
    ⟨xs.length, by simp, Nat.zero_le _, F1, e, [], [], Same.refl _, S1.alloc hD, upd_same, nF, .nil, nA, ?_⟩, ?_⟩
  · rw [List.drop_zero]
    exact P_mono q (fun r e2 _ q v F' H' t2 S2 R2 => q v F' H' (t1.trans t2) S2 R2) fun _ x => x.mono t1
  · rintro i k H2 ⟨rfl, hle, G, env', acc, accV, t2, S2, hDl, hDG, zA, apD, q2⟩
    obtain ⟨st, go⟩ := it i G H2 t2 S2.sub
    by_cases hlt : i < xs.length
    · refine .inr ?_
      have hd : xs[i]? = some xs[i] := List.getElem?_eq_getElem hlt
      obtain ⟨g1, g2⟩ := go _ hd
      rw [drop_cons hd] at q2
      have q2 : (if freeAt env' vs = true then compTurn ct t m vs (compL ct t m vs (xs.drop (i + 1))) acc env' (bindCT ct xs[i] (wipeE env' vs)) else .no).P (fin G) (XE C G) := q2
      by_cases hfr : freeAt env' vs = true
      · rw [if_pos hfr] at q2
        let Wn : Hp → Prop := fun H' => ∃ G' env'' acc' accV', Same F1 G' ∧ Sta K C G' H' σ env'' ∧ H' D = some (.lst accV') ∧ G' D = none ∧ DzAll K G' accV' acc' ∧ Apart σ env'' D ∧ (compL ct t m vs (xs.drop (i + 1)) acc' env'').P (fin G') (XE C G')
        refine ⟨g1, Wn, fun H' ⟨G', env'', acc', accV', a1, a2, a3, a4, a5, a6, a7⟩ => ⟨xs.length - (i + 1), by omega, rfl, hlt, G', env'', acc', accV', a1, a2, a3, a4, a5, a6, a7⟩, fun x H' y => ?_⟩
        obtain ⟨G', gr, zx⟩ := g2 x H' y
        obtain ⟨S3, t3⟩ := S2.growBy gr
        have hD3 : H' D = some (.lst accV) ∧ G' D = none := by
          rcases gr with ⟨rfl, rfl⟩ | ⟨p, o, np, rfl, rfl⟩
          · exact ⟨hDl, hDG⟩
          · have : D ≠ p := ne_of_none hDl np
            rw [upd_ne this, upd_ne this]
            exact ⟨hDl, hDG⟩
        -- the list that is made is kept while the turn runs
        let C' : Cc := (C.with D (.lst accV)).nox
        have S4 : Sta K C' G' H' σ env' := (S3.keepTemp hD3.1 hD3.2 n0 apD).toNox
        cases hb : bindCT ct xs[i] (wipeE env' vs) with
        | none => rw [hb] at q2; exact q2.elim
        | some e1 =>
          rw [hb] at q2
          have q2 : ((noX (t e1)).bind fun b e2 => if b = true then (noX (mOp m e2)).bind fun r e3 => compStep (compL ct t m vs (xs.drop (i + 1))) acc r (restE e3 env' vs) else compL ct t m vs (xs.drop (i + 1)) acc (restE e2 env' vs)).P (fin G) (XE C G) := q2
          rw [P_bind] at q2
          -- back to the slots ahead, the list longer or not
          have back : ∀ {F5 H5 : Hp} {σ2 : L2.St} {e5 : VE}, Same G' F5 → L2.wipe σ2 vs = L2.wipe σ vs → Sta K C' F5 H5 σ2 e5 → Sta K C F5 H5 σ (restE e5 env' vs) ∧ H5 D = some (.lst accV) ∧ F5 D = none ∧ Apart σ (restE e5 env' vs) D := fun {F5 H5 σ2 e5} t5 w S5 => by
            obtain ⟨S6, k1, k2, k3⟩ := S5.ofNox.unkeep (F0 := F5) n0 hF0 hio
            obtain ⟨S7, apr⟩ := S6.rest S3 t5 hfr w
            exact ⟨S7, k1, k2, apr D k3⟩
          refine bindCT_ok S4.wipe zx hb fun σ2 S5 hw => ?_
          have w5 : L2.wipe σ2 vs = L2.wipe σ vs := (hw vs hct).trans (wipe_eq (wipe_length _ _) fun j hj => wipe_ne hj)
          refine ⟨?_, C', G', e1, S5, noX_P (P_mono (x' := fun _ => True) q2 (fun bb e2 _ q3 F5 H5 t5 S6 => ?_) fun _ _ => trivial)⟩
          · exact w5
          · cases bb with
            | true =>
              rw [if_pos rfl, P_bind] at q3
              refine iteT ⟨C', op_run S6 (noX_P (P_mono (x' := fun _ => True) q3 (fun r e3 _ q4 => ?_) fun _ _ => trivial))⟩
              intro v F6 H6 t6 S7 R7 o7
              obtain ⟨S8, k1, k2, k3⟩ := back (t5.trans t6) w5 S7
              cases r with
              | val d =>
                have q4 : (if acc.length < sizeLine then compL ct t m vs (xs.drop (i + 1)) (acc ++ [d]) (restE e3 env' vs) else .no).P (fin G) (XE C G) := q4
                by_cases hz : acc.length < sizeLine
                · rw [if_pos hz] at q4
                  have tt := (t3.trans t5).trans t6
                  refine ⟨accV, k1, by rw [zA.length]; exact hz, F6, _, acc ++ [d], accV ++ [v], t2.trans tt, S8.writeTemp k2 n0 k3, upd_same, k2, (zA.mono tt).append (.one R7), k3, ?_⟩
                  exact P_mono q4 (fun r e7 _ q7 v F' H' t8 S9 R9 => q7 v F' H' (tt.trans t8) S9 R9) fun _ x => x.mono tt
                · rw [if_neg hz] at q4
                  exact q4.elim
              | _ => exact q4.elim
            | false =>
              rw [if_neg Bool.false_ne_true] at q3
              obtain ⟨S8, k1, k2, k3⟩ := back t5 w5 S6
              have tt := t3.trans t5
              refine iteF ⟨F5, _, acc, accV, t2.trans tt, S8, k1, k2, zA.mono tt, k3, ?_⟩
              exact P_mono q3 (fun r e7 _ q7 v F' H' t8 S9 R9 => q7 v F' H' (tt.trans t8) S9 R9) fun _ x => x.mono tt
      · rw [if_neg hfr] at q2
        exact q2.elim
    · have ei : i = xs.length := by omega
      refine .inl ⟨st (by omega), ?_⟩
      rw [ei, List.drop_length] at q2
      exact q2 _ G H2 (Same.refl _) S2 ⟨D, accV, rfl, hDl, hDG, n0, zA, apD⟩
end
end VL
namespace VL
open PySem PySem.Spec PyProof.Rows L2
section
variable {X : Cx} {C : Cc} {a b c e elt tg iter : Expr} {es ifs : List Expr} {ma mb mc m : ME} {ms : List ME} {mA : MA} {pos : Pos} {s1 s2 : MS} {scope : Scope} {own : List (Str × Nat)} {mi : MI} {ct : CT} {t : MT}
/-- [elt for tg in iter if ..] -/
theorem e_lc (hc : X.calm = true) (hN : X.N.Nodup) (hi : VIj X C tg iter mi) (ok : BlkOk X.N X.env.scope scope own) (hct : ∀ i ∈ ct.slots, i ∈ own.map (·.2))
    (hg : ∀ (s : Shared) (H : Hp) (L : Addr) (cl : List (Str × Addr)) (fp : List Addr), PG (X.blk s H scope (compEnvC scope cl L X.env) fp) tg (gCT X.K ct))
    (ht : ∀ (s : Shared) (H : Hp) (L : Addr) (cl : List (Str × Addr)) (fp : List Addr) (C : Cc), VTs (X.blk s H scope (compEnvC scope cl L X.env) fp) C ifs t)
    (he : ∀ (s : Shared) (H : Hp) (L : Addr) (cl : List (Str × Addr)) (fp : List Addr) (C : Cc), VEj (X.blk s H scope (compEnvC scope cl L X.env) fp) C elt m)
    (hs : ∀ x, foldedSetIterable iter X.env x = pure x := by intro _; rfl) : VEj X C (.ListComp elt [⟨tg, iter, ifs, 0⟩] scope pos) (mComp mi ct t m (own.map (·.2))) :=
  PE.weak (pe_lc hc hN hi ok hg (fun s H L cl fp => PTs.all (t := fun C => tT X.K C t) (ht s H L cl fp)) (fun s H L cl fp => PE.all (t := fun C => tM X.K C m) (he s H L cl fp)) hs) fun σ H Q h => comp_w hct h
/-- name = [..] -/
theorem s_setLc {i : Nat} {y : Str} {py : Pos} {spos : Pos} (hc : X.calm = true) (hN : X.N.Nodup) (hy : X.N[i]? = some y) (hyl : X.env.scope.names.lookup y = some .local)
    (hsw : swapsWith (.ListComp elt [⟨tg, iter, ifs, 0⟩] scope pos) (some (.Name y py)) spos.line X.env = pure true) (hi : VIj X C tg iter mi) (ok : BlkOk X.N X.env.scope scope own) (hct : ∀ i ∈ ct.slots, i ∈ own.map (·.2))
    (hg : ∀ (s : Shared) (H : Hp) (L : Addr) (cl : List (Str × Addr)) (fp : List Addr), PG (X.blk s H scope (compEnvC scope cl L X.env) fp) tg (gCT X.K ct))
    (ht : ∀ (s : Shared) (H : Hp) (L : Addr) (cl : List (Str × Addr)) (fp : List Addr) (C : Cc), VTs (X.blk s H scope (compEnvC scope cl L X.env) fp) C ifs t)
    (he : ∀ (s : Shared) (H : Hp) (L : Addr) (cl : List (Str × Addr)) (fp : List Addr) (C : Cc), VEj (X.blk s H scope (compEnvC scope cl L X.env) fp) C elt m)
    (hs : ∀ x, foldedSetIterable iter X.env x = pure x := by intro _; rfl) : VSj X C (.Assign [.Name y py] (.ListComp elt [⟨tg, iter, ifs, 0⟩] scope pos) spos) (sAsg (mComp mi ct t m (own.map (·.2))) (gNm i)) :=
  PS.weak (ps_setLc hc hN hy hyl hsw hi ok hg (fun s H L cl fp => PTs.all (t := fun C => tT X.K C t) (ht s H L cl fp)) (fun s H L cl fp => PE.all (t := fun C => tM X.K C m) (he s H L cl fp)) hs) fun D σ H h => by
    have w := asg_n h
    exact comp_w (Q := fun x H1 => gName i x σ H1 D.nx) hct w
end
/-! ### defs -/
inductive OutF where
  | ok (r : Sl) (io : Option (List Da))
  | exc (x : Da)
  | no
def OutF.P (o : OutF) (p : Sl → Option (List Da) → Prop) (x : Da → Prop) : Prop := match o with
  | .ok r io => p r io
  | .exc d => x d
  | .no => False
abbrev Fn := List Sl → OutF
def ioPos : List Sl → Option Nat
  | [] => none
  | .io _ :: _ => some 0
  | _ :: r => match ioPos r with
    | some n => some (n + 1)
    | none => none
def ioAt (r : Sl) : Option Sl → OutF
  | some (.io xs) => .ok r (some xs)
  | _ => .no
def ioOut (r : Sl) (e : VE) : Option Nat → OutF
  | none => .ok r none
  | some p => ioAt r e[p]?
def finF (args : List Sl) : Out Fl → OutF
  | .ok (.rt (.pk _)) _ => .no
  | .ok (.rt r) e => ioOut r e (ioPos args)
  | .ok .nx e => ioOut (.val .none) e (ioPos args)
  | .exc x => .exc x
  | _ => .no
def argS : Sl → Bool
  | .val _ | .io _ | .scr _ => true
  | _ => false
def one_io : List Sl → Bool
  | [] => true
  | .io _ :: r => r.all fun s => match s with
    | .io _ => false
    | _ => true
  | _ :: r => one_io r
def bodyF (np n : Nat) (ms : MS) : Fn := fun args => if args.length = np ∧ one_io args = true then finF args (ms (args ++ List.replicate (n - np) .no)) else .no
section
variable (K : PySem.W.Frag) (F H : Hp) (ad : Option Addr)
def ArgOk (v : V) : Sl → Prop
  | .val d => Dz K F v d
  | .scr ns => ∃ a, v = .ref a ∧ SqL K F a (ns.map V.int)
  | .io xs => ∃ a ws, v = .ref a ∧ ad = some a ∧ H a = some (.lst ws) ∧ F a = none ∧ DzAll K F ws xs
  | _ => False
def ArgsOk : List V → List Sl → Prop
  | [], [] => True
  | v :: vs, s :: ss => ArgOk K F H ad v s ∧ ArgsOk vs ss
  | _, _ => False
/-- a call's result, at the heap behind it (ahead of it H) -/
def ResF (F' H' : Hp) (v : V) : Sl → Prop
  | .val d => Dz K F' v d
  | .own xs => ∃ a vs, v = .ref a ∧ H a = none ∧ H' a = some (.lst vs) ∧ F' a = none ∧ DzAll K F' vs xs
  | .odk kvs => ∃ a ks, v = .ref a ∧ H a = none ∧ H' a = some (.dK ks) ∧ F' a = none ∧ DzK K F' ks kvs
  | .odt kvs => ∃ a ks, v = .ref a ∧ H a = none ∧ H' a = some (.dT ks) ∧ F' a = none ∧ DzT K F' ks kvs
  | .scr ns => ∃ a, v = .ref a ∧ SqL K F' a (ns.map V.int)
  | _ => False
def IoOk (F' H' : Hp) : Option (List Da) → Prop
  | none => ad = none
  | some xs => ∃ a ws, ad = some a ∧ H' a = some (.lst ws) ∧ F' a = none ∧ DzAll K F' ws xs
end
/-- behind a call: what stood is as it was, but for the one list that the call may change -/
structure Aft (F H F' H' : Hp) (ad : Option Addr) : Prop where
  sF : Same F F'
  sub : Same F' H'
  frame : ∀ a o, H a = some o → ad ≠ some a → H' a = some o
  fnew : ∀ a, F' a ≠ none → F a ≠ none ∨ H a = none
def spV (K : PySem.W.Frag) (fn : Fn) : Sp := fun vs H Q _ => ∃ F args ad, ArgsOk K F H ad vs args ∧ Same F H ∧ (ad ≠ none → ∃ p, ioPos args = some p) ∧
  (fn args).P (fun r io => ∀ v F' H', Aft F H F' H' ad → IoOk K ad F' H' io → ResF K H F' H' v r → Q v H') (fun _ => False)
section
variable {K : PySem.W.Frag} {F H : Hp} {ad : Option Addr}
theorem ArgsOk.length : ∀ {vs : List V} {ss : List Sl}, ArgsOk K F H ad vs ss → vs.length = ss.length
  | [], [], _ => rfl
  | _ :: _, _ :: _, h => by rw [List.length_cons, List.length_cons, ArgsOk.length h.2]
  | [], _ :: _, h => h.elim
  | _ :: _, [], h => h.elim
theorem ArgsOk.get : ∀ {vs : List V} {ss : List Sl} {i : Nat} {s : Sl}, ArgsOk K F H ad vs ss → ss[i]? = some s → ∃ v, vs[i]? = some v ∧ ArgOk K F H ad v s
  | v :: _, s :: _, 0, t, h, e => by simp at e; subst e; exact ⟨v, rfl, h.1⟩
  | _ :: vs, _ :: ss, i + 1, t, h, e => by
    obtain ⟨v, h1, h2⟩ := ArgsOk.get (i := i) (s := t) h.2 (by simpa using e)
    exact ⟨v, by simpa using h1, h2⟩
  | [], [], _, _, _, e => by simp at e
  | [], _ :: _, _, _, h, _ => h.elim
  | _ :: _, [], _, _, h, _ => h.elim
theorem one_io_at : ∀ {ss : List Sl} {i j : Nat} {xs ys : List Da}, one_io ss = true → ss[i]? = some (.io xs) → ss[j]? = some (.io ys) → i = j
  | [], _, _, _, _, _, h, _ => by simp at h
  | s :: r, 0, 0, _, _, _, _, _ => rfl
  | s :: r, 0, j + 1, xs, ys, h, h1, h2 => by
    simp at h1
    subst h1
    have m : Sl.io ys ∈ r := List.mem_of_getElem? (by simpa using h2)
    have q := List.all_eq_true.mp (show (r.all fun s => match s with
      | .io _ => false
      | _ => true) = true from h) _ m
    cases q
  | s :: r, i + 1, 0, xs, ys, h, h1, h2 => by
    simp at h2
    subst h2
    have m : Sl.io xs ∈ r := List.mem_of_getElem? (by simpa using h1)
    have q := List.all_eq_true.mp (show (r.all fun s => match s with
      | .io _ => false
      | _ => true) = true from h) _ m
    cases q
  | s :: r, i + 1, j + 1, xs, ys, h, h1, h2 => by
    have h' : one_io r = true := by
      cases s with
      | io zs =>
        have m : Sl.io xs ∈ r := List.mem_of_getElem? (by simpa using h1)
        have q := List.all_eq_true.mp (show (r.all fun s => match s with
          | .io _ => false
          | _ => true) = true from h) _ m
        cases q
      | _ => exact h
    have e1 : r[i]? = some (.io xs) := by simpa using h1
    have e2 : r[j]? = some (.io ys) := by simpa using h2
    rw [one_io_at h' e1 e2]
theorem ioPos_at : ∀ {ss : List Sl} {p : Nat}, ioPos ss = some p → ∃ xs, ss[p]? = some (.io xs)
  | [], _, h => by cases h
  | s :: r, p, h => by
    cases s with
    | io xs => cases h; exact ⟨xs, rfl⟩
    | _ =>
      unfold ioPos at h
      cases g : ioPos r with
      | none => rw [g] at h; cases h
      | some n =>
        rw [g] at h
        cases h
        obtain ⟨xs, e⟩ := ioPos_at g
        exact ⟨xs, by simpa using e⟩
theorem ioPos_none : ∀ {ss : List Sl} {p : Nat} {xs : List Da}, ioPos ss = none → ss[p]? = some (.io xs) → False
  | [], _, _, _, h => by simp at h
  | s :: r, p, xs, h, e => by
    cases s with
    | io ys => cases h
    | _ =>
      cases p with
      | zero => simp at e
      | succ p =>
        unfold ioPos at h
        cases g : ioPos r with
        | none => exact ioPos_none g (by simpa using e)
        | some n => rw [g] at h; cases h
theorem start_sta {vs : List V} {args : List Sl} {n np : Nat} (h : ArgsOk K F H ad vs args) (sub : Same F H) (hio : ad ≠ none → ∃ p, ioPos args = some p) (hn : args.length = np) (h1 : one_io args = true) {N : List Str} (hN : N.length = n) (hle : np ≤ n) :
    Sta K ⟨H, F, ad, fun _ _ _ => False⟩ F H (L2.start N vs) (args ++ List.replicate (n - np) .no) := by
  have hl := h.length
  have left : ∀ {i : Nat} {s : Sl}, (args ++ List.replicate (n - np) Sl.no)[i]? = some s → s ≠ .no → args[i]? = some s := fun {i s} e ne => by
    by_cases hi : i < args.length
    · rw [List.getElem?_append_left hi] at e; exact e
    · rw [List.getElem?_append_right (by omega)] at e
      obtain ⟨_, e2⟩ := List.getElem?_eq_some_iff.mp e
      rw [List.getElem_replicate] at e2
      exact absurd e2.symm ne
  have slot : ∀ {i : Nat} {v : V}, vs[i]? = some v → (L2.start N vs)[i]? = some (some v) := fun {i v} e => by
    unfold L2.start
    have hi : i < vs.length := (List.getElem?_eq_some_iff.mp e).1
    rw [List.getElem?_append_left (by rw [List.length_map]; exact hi), List.getElem?_map, e]
    rfl
  refine ⟨?_, sub, Same.refl F, fun a o e _ => e, fun a e => .inl e, fun a e => ?_, fun i s e => ?_, fun i j a s t ne e1 o1 e2 o2 g1 g2 => ?_⟩
  · unfold L2.start
    rw [List.length_append, List.length_append, List.length_map, List.length_replicate, List.length_replicate, hl, hN, hn]
  · obtain ⟨p, hp⟩ := hio (by rw [show ad = some a from e]; simp)
    obtain ⟨xs, ex⟩ := ioPos_at hp
    obtain ⟨v, _, b, ws, _, ea, hb, _⟩ := h.get ex
    have e : ad = some a := e
    rw [e] at ea
    cases ea
    exact ⟨by rw [hb]; simp, by show H a ≠ none; rw [hb]; simp⟩
  · cases s with
    | no => trivial
    | val d => obtain ⟨v, ev, z⟩ := h.get (left e (fun z => nomatch z)); exact ⟨v, slot ev, z⟩
    | scr ns => obtain ⟨v, ev, a, rfl, z⟩ := h.get (left e (fun z => nomatch z)); exact ⟨a, slot ev, z⟩
    | io xs => obtain ⟨v, ev, a, ws, rfl, z1, z2, z3, z4⟩ := h.get (left e (fun z => nomatch z)); exact ⟨a, ws, slot ev, z1, z2, z3, z4⟩
    | own xs => obtain ⟨v, ev, z⟩ := h.get (left e (fun z => nomatch z)); exact z.elim
    | odk xs => obtain ⟨v, ev, z⟩ := h.get (left e (fun z => nomatch z)); exact z.elim
    | odt xs => obtain ⟨v, ev, z⟩ := h.get (left e (fun z => nomatch z)); exact z.elim
    | pk xs => obtain ⟨v, ev, z⟩ := h.get (left e (fun z => nomatch z)); exact z.elim
  · have ioS : ∀ {i : Nat} {s : Sl}, (args ++ List.replicate (n - np) Sl.no)[i]? = some s → isOw s = true → ∃ xs, args[i]? = some (.io xs) := fun {i s} e o => by
      cases s with
      | io xs => exact ⟨xs, left e (fun z => nomatch z)⟩
      | own xs => obtain ⟨v, ev, z⟩ := h.get (left e (fun z => nomatch z)); exact z.elim
      | odk xs => obtain ⟨v, ev, z⟩ := h.get (left e (fun z => nomatch z)); exact z.elim
      | odt xs => obtain ⟨v, ev, z⟩ := h.get (left e (fun z => nomatch z)); exact z.elim
      | _ => cases o
    obtain ⟨xs, q1⟩ := ioS e1 o1
    obtain ⟨ys, q2⟩ := ioS e2 o2
    exact ne (one_io_at h1 q1 q2)
end
section
variable {P : Program} {w : World} {K : PySem.W.Frag} {mg : Str → Option Value} {base : Heap}
/-- THE RULE for a def: its body's derivation gives its promise -/
theorem fn_ok {x qual : Str} {st : Stmt} {f : Addr} {fd : FuncData} {N ps : List Str} {k : Nat} {ms : MS} (Fu : Fun K x qual st f fd) (S : FnScope N ps (defScope st)) (hle : ps.length ≤ N.length)
    (hb : ∀ (cdv : Value) (A : Around) (outer : List Env) (s : Shared) (H : Hp) (E : XK) (C : Cc), Room k (A.deeper (envOfC qual (defScope st) s.heap.objs.size f cdv)) →
      VSs (cxOf CX0 P w K mg base N qual (defScope st) f cdv A outer s H E).nox C (defBody st) ms) : FnOk P w K mg base CX0 (k + 1) f fd ps (spV K (bodyF ps.length N.length ms)) := by
  have key : ∀ {args : List Sl} {p : Sl → Option (List Da) → Prop} {x : Da → Prop}, (bodyF ps.length N.length ms args).P p x → (args.length = ps.length ∧ one_io args = true) ∧ (finF args (ms (args ++ List.replicate (N.length - ps.length) .no))).P p x := fun {args p x} h => by
    unfold bodyF at h
    by_cases hc : args.length = ps.length ∧ one_io args = true
    · rw [if_pos hc] at h; exact ⟨hc, h⟩
    · rw [if_neg hc] at h; exact h.elim
  refine Fu.ok S (fun vs H Q E h => ?_) (fun cdv A outer s H vs Q E hr h => ?_)
  · obtain ⟨F, args, ad, ha, _, _, q⟩ := h
    rw [ha.length]
    exact (key q).1.1
  · obtain ⟨F, args, ad, ha, sub, hio, q⟩ := h
    obtain ⟨⟨hn, h1⟩, q⟩ := key q
    refine ⟨_, hb cdv A outer s H E ⟨H, F, ad, fun _ _ _ => False⟩ hr, F, _, start_sta ha sub hio hn h1 rfl hle, ?_⟩
    show (ms (args ++ List.replicate (N.length - ps.length) .no)).P _ _
    cases g : ms (args ++ List.replicate (N.length - ps.length) .no) with
    | no => rw [g] at q; exact q.elim
    | exc d => rw [g] at q; exact q.elim
    | ok fl e =>
      rw [g] at q
      have fin : ∀ {r : Sl} {v : V} {F' H' : Hp} {σ' : L2.St}, notPk r = true → (ioOut r e (ioPos args)).P (fun r io => ∀ v F' H', Aft F H F' H' ad → IoOk K ad F' H' io → ResF K H F' H' v r → Q v H') (fun _ => False) → Sta K ⟨H, F, ad, fun _ _ _ => False⟩ F' H' σ' e →
          ResOk K ⟨H, F, ad, fun _ _ _ => False⟩ F' H' σ' e v r → Q v H' := fun {r v F' H' σ'} np q S2 R => by
        have aft : Aft F H F' H' ad := ⟨S2.mono, S2.sub, S2.frame, S2.fnew⟩
        have rf : ResF K H F' H' v r := by
          cases r with
          | val d => exact R
          | own xs => obtain ⟨a, vs, e1, p1, p2, p3, p4, _⟩ := R; exact ⟨a, vs, e1, p3, p1, p2, p4⟩
          | odk xs => obtain ⟨a, vs, e1, p1, p2, p3, p4, _⟩ := R; exact ⟨a, vs, e1, p3, p1, p2, p4⟩
          | odt xs => obtain ⟨a, vs, e1, p1, p2, p3, p4, _⟩ := R; exact ⟨a, vs, e1, p3, p1, p2, p4⟩
          | scr ns => exact R
          | no => exact R.elim
          | io xs => exact R.elim
          | pk j => cases np
        cases gp : ioPos args with
        | none =>
          rw [gp] at q
          refine q v F' H' aft ?_ rf
          show ad = none
          cases had : ad with
          | none => rfl
          | some a =>
            obtain ⟨p, hp⟩ := hio (by rw [had]; simp)
            rw [gp] at hp
            cases hp
        | some p =>
          rw [gp] at q
          have q : (ioAt r e[p]?).P _ _ := q
          cases ge : e[p]? with
          | none => rw [ge] at q; exact q.elim
          | some t =>
            rw [ge] at q
            cases t with
            | io xs =>
              obtain ⟨a, ws, _, h0, h1', h2, h3⟩ := S2.slot p _ ge
              exact q v F' H' aft ⟨a, ws, h0, h1', h2, h3⟩ rf
            | _ => exact q.elim
      intro F' H' σ' sF S2
      cases fl with
      | nx => exact fin (r := .val .none) rfl q S2 .non
      | rt r =>
        intro v R
        cases r with
        | pk j => exact q.elim
        | val d => exact fin (r := .val d) rfl q S2 R
        | own d => exact fin (r := .own d) rfl q S2 R
        | odk d => exact fin (r := .odk d) rfl q S2 R
        | odt d => exact fin (r := .odt d) rfl q S2 R
        | scr d => exact fin (r := .scr d) rfl q S2 R
        | no => exact R.elim
        | io d => exact R.elim
      | bk => exact q.elim
      | ct => exact q.elim
end
/-! ### calls of defs -/
def argOf (e : VE) : Sl → Option Sl
  | .val d => some (.val d)
  | .scr ns => some (.scr ns)
  | .pk i => match e[i]? with
    | some (.own xs) => some (.io xs)
    | some (.io xs) => some (.io xs)
    | _ => none
  | _ => none
def argsOf (e : VE) : List Sl → Option (List Sl)
  | [] => some []
  | r :: rs => match argOf e r, argsOf e rs with
    | some s, some ss => some (s :: ss)
    | _, _ => none
/-- the slot that is passed to be changed -/
def ioSlot : List Sl → Option Nat
  | [] => none
  | .pk i :: _ => some i
  | _ :: r => ioSlot r
def onePk : List Sl → Bool
  | [] => true
  | .pk _ :: r => r.all fun s => notPk s
  | _ :: r => onePk r
def putIo (i : Nat) (xs : List Da) (r : Sl) (e : VE) : Option Sl → Out Sl
  | some (.own _) => .ok r (e.set i (.own xs))
  | some (.io _) => .ok r (e.set i (.io xs))
  | _ => .no
def retE (e : VE) (sl : Option Nat) : OutF → Out Sl
  | .ok r none => if sl = none then .ok r e else .no
  | .ok r (some xs) => match sl with
    | some i => putIo i xs r e e[i]?
    | none => .no
  | .exc x => .no
  | .no => .no
def callE (fn : Fn) (rs : List Sl) (e : VE) : Option (List Sl) → Out Sl
  | some args => retE e (ioSlot rs) (fn args)
  | none => .no
def mCall (fn : Fn) (mA : MA) : ME := fun env => (mA env).bind fun rs e => if onePk rs = true then callE fn rs e (argsOf e rs) else .no
section
variable {K : PySem.W.Frag} {C : Cc} {F H : Hp} {σ : L2.St} {env : VE}
theorem res_args (S : Sta K C F H σ env) {ad : Option Addr} : ∀ {vs : List V} {rs args : List Sl}, ResAll K C F H σ env vs rs → argsOf env rs = some args → (∀ i, Sl.pk i ∈ rs → ∃ a, ad = some a ∧ σ[i]? = some (some (.ref a))) → ArgsOk K F H ad vs args
  | [], [], args, _, e, _ => by cases e; trivial
  | v :: vs, r :: rs, args, ⟨R, o, t⟩, e, hp => by
    unfold argsOf at e
    cases g : argOf env r with
    | none => rw [g] at e; cases e
    | some s =>
      cases g2 : argsOf env rs with
      | none => rw [g, g2] at e; cases e
      | some ss =>
        rw [g, g2] at e
        cases e
        refine ⟨?_, res_args S t g2 fun i m => hp i (List.mem_cons_of_mem _ m)⟩
        cases r with
        | val d => cases g; exact R
        | scr ns => cases g; exact R
        | pk i =>
          have R : σ[i]? = some (some v) := R
          obtain ⟨a, ea, es⟩ := hp i List.mem_cons_self
          rw [es] at R
          cases R
          unfold argOf at g
          cases q : env[i]? with
          | none => simp only [q] at g; cases g
          | some t =>
            simp only [q] at g
            have w := S.slot i t q
            cases t with
            | own xs => cases g; obtain ⟨b, ws, e1, p1, p2, p3, p4⟩ := w; rw [es] at e1; cases e1; exact ⟨a, ws, rfl, ea, p1, p2, p4⟩
            | io xs => cases g; obtain ⟨b, ws, e1, p0, p1, p2, p4⟩ := w; rw [es] at e1; cases e1; exact ⟨a, ws, rfl, ea, p1, p2, p4⟩
            | _ => cases g
        | _ => cases g
  | [], _ :: _, _, h, _, _ => h.elim
  | _ :: _, [], _, h, _, _ => h.elim
theorem ioSlot_mem : ∀ {rs : List Sl} {i : Nat}, ioSlot rs = some i → Sl.pk i ∈ rs
  | [], _, h => by cases h
  | r :: rs, i, h => by
    cases r with
    | pk j => cases h; exact List.mem_cons_self
    | _ => exact List.mem_cons_of_mem _ (ioSlot_mem h)
theorem ioSlot_none : ∀ {rs : List Sl} {i : Nat}, ioSlot rs = none → Sl.pk i ∉ rs
  | [], _, _ => by simp
  | r :: rs, i, h => by
    cases r with
    | pk j => cases h
    | _ =>
      intro m
      rcases List.mem_cons.mp m with e | m
      · cases e
      · exact ioSlot_none (rs := rs) h m
theorem onePk_one : ∀ {rs : List Sl} {i j : Nat}, onePk rs = true → ioSlot rs = some i → Sl.pk j ∈ rs → j = i
  | [], _, _, _, h, _ => by cases h
  | r :: rs, i, j, h, hs, m => by
    cases r with
    | pk k =>
      cases hs
      rcases List.mem_cons.mp m with e | m
      · cases e; rfl
      · have q := List.all_eq_true.mp (show (rs.all fun s => notPk s) = true from h) _ m
        cases q
    | _ =>
      rcases List.mem_cons.mp m with e | m
      · cases e
      · exact onePk_one (rs := rs) h hs m
theorem argsOf_io (env : VE) : ∀ {rs args : List Sl} {i : Nat}, argsOf env rs = some args → Sl.pk i ∈ rs → ∃ p, ioPos args = some p
  | r :: rs, args, i, e, m => by
    unfold argsOf at e
    cases g : argOf env r with
    | none => rw [g] at e; cases e
    | some s =>
      cases g2 : argsOf env rs with
      | none => rw [g, g2] at e; cases e
      | some ss =>
        rw [g, g2] at e
        cases e
        cases s with
        | io xs => exact ⟨0, rfl⟩
        | _ =>
          rcases List.mem_cons.mp m with e | m
          · subst e
            unfold argOf at g
            cases q : env[i]? with
            | none => simp only [q] at g; cases g
            | some t => simp only [q] at g; cases t <;> cases g
          · obtain ⟨p, hp⟩ := argsOf_io env g2 m
            exact ⟨p + 1, by unfold ioPos; rw [hp]⟩
theorem call_w {fn : Fn} {mA : MA} {Q : VK} {E : XK} (h : tM K C (mCall fn mA) σ H Q) : tCall (spV K fn) [] E (tA K C mA) σ H Q := by
  obtain ⟨F, env, S, q⟩ := h
  unfold mCall at q
  rw [P_bind] at q
  refine ⟨F, env, S, P_mono q (fun rs e _ q vs F1 H1 t1 S1 RA => ?_) fun _ x => x⟩
  show spV K fn (vs ++ []) H1 Q E
  rw [List.append_nil]
  by_cases h1 : onePk rs = true
  · rw [if_pos h1] at q
    cases ga : argsOf e rs with
    | none => rw [ga] at q; exact q.elim
    | some args =>
      rw [ga] at q
      have q : (retE e (ioSlot rs) (fn args)).P _ _ := q
      cases gs : ioSlot rs with
      | none =>
        rw [gs] at q
        refine ⟨F1, args, none, res_args S1 RA ga (fun i m => absurd m (ioSlot_none gs)), S1.sub, fun z => absurd rfl z, ?_⟩
        cases gf : fn args with
        | no => rw [gf] at q; exact q.elim
        | exc d => rw [gf] at q; exact q.elim
        | ok r io =>
          rw [gf] at q
          intro v F' H' A io' rf
          cases io with
          | some xs => exact q.elim
          | none =>
            have q : (if (none : Option Nat) = none then Out.ok r e else .no).P _ _ := q
            rw [if_pos rfl] at q
            have S2 : Sta K C F' H' σ e := S1.grow A.sF A.sub (fun a o h _ => A.frame a o h (by simp)) fun a h => (A.fnew a h).elim .inl fun z => .inr (S1.new z).2
            refine q v F' H' (t1.trans A.sF) S2 ?_
            cases r with
            | val d => exact rf
            | own xs => obtain ⟨a, ws, e1, p0, p1, p2, p3⟩ := rf; exact ⟨a, ws, e1, p1, p2, (S1.new p0).2.1, p3, (S1.new p0).2.2⟩
            | odk xs => obtain ⟨a, ws, e1, p0, p1, p2, p3⟩ := rf; exact ⟨a, ws, e1, p1, p2, (S1.new p0).2.1, p3, (S1.new p0).2.2⟩
            | odt xs => obtain ⟨a, ws, e1, p0, p1, p2, p3⟩ := rf; exact ⟨a, ws, e1, p1, p2, (S1.new p0).2.1, p3, (S1.new p0).2.2⟩
            | scr ns => exact rf
            | _ => exact rf.elim
      | some i =>
        rw [gs] at q
        have mi := ioSlot_mem gs
        -- the slot's list
        have there : ∃ t, e[i]? = some t ∧ ((∃ xs, t = .own xs) ∨ ∃ xs, t = .io xs) := by
          have aux : ∀ {rs args : List Sl}, argsOf e rs = some args → Sl.pk i ∈ rs → ∃ s, argOf e (.pk i) = some s := fun {rs} => by
            induction rs with
            | nil => intro _ _ m; simp at m
            | cons r rs ih =>
              intro args h m
              unfold argsOf at h
              cases g : argOf e r with
              | none => rw [g] at h; cases h
              | some s =>
                cases g2 : argsOf e rs with
                | none => rw [g, g2] at h; cases h
                | some ss =>
                  rcases List.mem_cons.mp m with z | m
                  · subst z; exact ⟨s, g⟩
                  · exact ih g2 m
          obtain ⟨s, gs'⟩ := aux ga mi
          unfold argOf at gs'
          cases q : e[i]? with
          | none => simp only [q] at gs'; cases gs'
          | some t =>
            simp only [q] at gs'
            cases t with
            | own xs => exact ⟨_, rfl, .inl ⟨xs, rfl⟩⟩
            | io xs => exact ⟨_, rfl, .inr ⟨xs, rfl⟩⟩
            | _ => cases gs'
        obtain ⟨t, ht, kt⟩ := there
        have ot : isOw t = true := by rcases kt with ⟨xs, rfl⟩ | ⟨xs, rfl⟩ <;> rfl
        obtain ⟨a, ea⟩ := slot_there S1 ht ot
        obtain ⟨n1, n2, n3⟩ := S1.at ht ot ea
        refine ⟨F1, args, some a, res_args S1 RA ga (fun j m => ⟨a, rfl, by rw [onePk_one h1 gs m]; exact ea⟩), S1.sub, fun _ => argsOf_io e ga mi, ?_⟩
        cases gf : fn args with
        | no => rw [gf] at q; exact q.elim
        | exc d => rw [gf] at q; exact q.elim
        | ok r io =>
          rw [gf] at q
          intro v F' H' A io' rf
          cases io with
          | none => exact q.elim
          | some xs =>
            have q : (putIo i xs r e e[i]?).P _ _ := q
            rw [ht] at q
            obtain ⟨a', ws, ea', w1, w2, w3⟩ := io'
            cases ea'
            have apD := S1.apart ht ot ea
            have S2 : Sta K C F' H' σ (e.set i .no) := (S1.drop i).growX (fun b => b = a) A.sF A.sub (fun b o h _ ne => A.frame b o h fun z => ne (Option.some.inj z).symm)
              (fun b h => (A.fnew b h).elim .inl fun z => .inr ((S1.drop i).new z).2) fun b eb => by subst eb; exact ⟨by rw [w1]; simp, n3, apD⟩
            have fin : ∀ {s : Sl}, isOw s = true → SlOk K C F' H' (σ[i]?) s → Sta K C F' H' σ (e.set i s) := fun {s} os sl => by
              have S3 := S2.reslot (i := i) (s := s) sl fun _ b eb j u ne hu ou => by
                rw [ea] at eb
                cases eb
                rw [List.getElem?_set_ne (Ne.symm ne)] at hu
                intro g
                exact S1.dist j i a u t ne hu ou ht ot g ea
              rw [List.set_set] at S3
              exact S3
            have resA : ∀ {s : Sl}, isOw s = true → ResOk K C F' H' σ (e.set i s) v r := fun {s} os => by
              have ap : ∀ b, H1 b = none → Apart σ (e.set i s) b := fun b hb j u hu ou g => by
                rcases get_set hu with ⟨rfl, rfl⟩ | ⟨nj, hu⟩
                · rw [ea] at g
                  cases g
                  exact n1 hb
                · exact (S1.at hu ou g).1 hb
              cases r with
              | val d => exact rf
              | own xs => obtain ⟨b, ws, e1, p0, p1, p2, p3⟩ := rf; exact ⟨b, ws, e1, p1, p2, (S1.new p0).2.1, p3, ap b p0⟩
              | odk xs => obtain ⟨b, ws, e1, p0, p1, p2, p3⟩ := rf; exact ⟨b, ws, e1, p1, p2, (S1.new p0).2.1, p3, ap b p0⟩
              | odt xs => obtain ⟨b, ws, e1, p0, p1, p2, p3⟩ := rf; exact ⟨b, ws, e1, p1, p2, (S1.new p0).2.1, p3, ap b p0⟩
              | scr ns => exact rf
              | _ => exact rf.elim
            have sl := S1.slot i t ht
            rcases kt with ⟨ys, rfl⟩ | ⟨ys, rfl⟩
            · obtain ⟨b, us, e1, p1, p2, p3, p4⟩ := sl
              rw [ea] at e1
              cases e1
              exact q v F' H' (t1.trans A.sF) (fin (s := .own xs) rfl ⟨a, ws, ea, w1, w2, p3, w3⟩) (resA rfl)
            · obtain ⟨b, us, e1, p0, p1, p2, p4⟩ := sl
              rw [ea] at e1
              cases e1
              exact q v F' H' (t1.trans A.sF) (fin (s := .io xs) rfl ⟨a, ws, ea, p0, w1, w2, w3⟩) (resA rfl)
  · rw [if_neg h1] at q
    exact q.elim
end
section
variable {X : Cx} {C : Cc} {e : Expr} {es : List Expr} {mA : MA} {pos p : Pos} {fn : Fn} {k : Nat} {f : Addr} {fd : FuncData} {ps : List Str} {x : Str}
theorem e_call (G : FnOk X.prog X.w X.K X.mg X.base CX0 k f fd ps (spV X.K fn)) (hr : Room k X.A) (hg : Gl X x) (hm : X.mg x = some (.ref f)) (hk : PySem.W.keepIn X.K (.ref f) = true) (hb : Binds X.K fd ps []) (ha : VAj X C (e :: es) mA)
    (hdb : (x == ("__debug__" : Str)) = false := by decide) (he : starEach (e :: es) X.env = (false, eval e X.env) :: starEach es X.env := by rfl) (hpl : (backTo pos (starEach es X.env)).any (·.1) = false := by rfl) :
    VEj X C (.Call (.Name x p) (e :: es) [] pos) (mCall fn mA) := PE.weak (pe_call G hr hg hm hk hb .nil pass0 ha hdb he hpl) fun σ H Q h => call_w h
end
end VL
namespace VL
open PySem PySem.Spec PyProof.Rows L2
section
variable {X : Cx} {C : Cc} {a b c e : Expr} {es : List Expr} {ma mb mc m : ME} {ms : List ME} {mA : MA} {pos : Pos} {s1 s2 : MS}
theorem e_op (h : VEj X C e m) : VEj X C e (mOp m) := PE.weak h fun σ H Q ⟨F, env, S, q⟩ => op_run S (P_mono q (fun r e _ q v F1 H1 t1 S1 R _ => q v F1 H1 t1 S1 R) fun _ x => x)
/-! ### d[k] = v, d a dict of a slot -/
def putD {κ : Type} [DecidableEq κ] (kvs : List (κ × Da)) (k : κ) (d : Da) : List (κ × Da) :=
  if (kvs.any fun kv => decide (kv.1 = k)) = true then kvs.map (fun kv => if kv.1 = k then (kv.1, d) else kv) else kvs ++ [(k, d)]
theorem any_k {K : PySem.W.Frag} {F : Hp} (k : Key) : ∀ {vs : List (Key × V)} {ds : List (Key × Da)}, DzK K F vs ds → (ds.any fun kv => decide (kv.1 = k)) = (vs.any fun kv => decide (kv.1 = k))
  | _, _, .nil => rfl
  | _, _, .cons _ t => by rw [List.any_cons, List.any_cons, any_k k t]
theorem any_t {K : PySem.W.Frag} {F : Hp} (k : List Key) : ∀ {vs : List (List Key × V)} {ds : List (List Key × Da)}, DzT K F vs ds → (ds.any fun kv => decide (kv.1 = k)) = (vs.any fun kv => decide (kv.1 = k))
  | _, _, .nil => rfl
  | _, _, .cons _ t => by rw [List.any_cons, List.any_cons, any_t k t]
theorem map_k {K : PySem.W.Frag} {F : Hp} (k : Key) {v : V} {d : Da} (z : Dz K F v d) : ∀ {vs : List (Key × V)} {ds : List (Key × Da)}, DzK K F vs ds → DzK K F (vs.map fun kv => if kv.1 = k then (kv.1, v) else kv) (ds.map fun kv => if kv.1 = k then (kv.1, d) else kv)
  | _, _, .nil => .nil
  | _, _, .cons (k := k') a t => by
    rw [List.map_cons, List.map_cons]
    by_cases h : k' = k
    · simp only [h, if_true]; exact .cons z (map_k k z t)
    · simp only [h, if_false]; exact .cons a (map_k k z t)
theorem map_t {K : PySem.W.Frag} {F : Hp} (k : List Key) {v : V} {d : Da} (z : Dz K F v d) : ∀ {vs : List (List Key × V)} {ds : List (List Key × Da)}, DzT K F vs ds → DzT K F (vs.map fun kv => if kv.1 = k then (kv.1, v) else kv) (ds.map fun kv => if kv.1 = k then (kv.1, d) else kv)
  | _, _, .nil => .nil
  | _, _, .cons (k := k') a t => by
    rw [List.map_cons, List.map_cons]
    by_cases h : k' = k
    · simp only [h, if_true]; exact .cons z (map_t k z t)
    · simp only [h, if_false]; exact .cons a (map_t k z t)
theorem app_k {K : PySem.W.Frag} {F : Hp} {k : Key} {v : V} {d : Da} (z : Dz K F v d) : ∀ {vs : List (Key × V)} {ds : List (Key × Da)}, DzK K F vs ds → DzK K F (vs ++ [(k, v)]) (ds ++ [(k, d)])
  | _, _, .nil => .cons z .nil
  | _, _, .cons a t => .cons a (app_k z t)
theorem app_t {K : PySem.W.Frag} {F : Hp} {k : List Key} {v : V} {d : Da} (z : Dz K F v d) : ∀ {vs : List (List Key × V)} {ds : List (List Key × Da)}, DzT K F vs ds → DzT K F (vs ++ [(k, v)]) (ds ++ [(k, d)])
  | _, _, .nil => .cons z .nil
  | _, _, .cons a t => .cons a (app_t z t)
theorem put_k {K : PySem.W.Frag} {F : Hp} {k : Key} {v : V} {d : Da} (z : Dz K F v d) {vs : List (Key × V)} {ds : List (Key × Da)} (h : DzK K F vs ds) : DzK K F (putK vs k v) (putD ds k d) := by
  unfold putK putD
  rw [any_k k h]
  split
  · exact map_k k z h
  · exact app_k z h
theorem put_t {K : PySem.W.Frag} {F : Hp} {k : List Key} {v : V} {d : Da} (z : Dz K F v d) {vs : List (List Key × V)} {ds : List (List Key × Da)} (h : DzT K F vs ds) : DzT K F (putK vs k v) (putD ds k d) := by
  unfold putK putD
  rw [any_t k h]
  split
  · exact map_t k z h
  · exact app_t z h
theorem DzK.len {K : PySem.W.Frag} {F : Hp} : ∀ {vs : List (Key × V)} {ds : List (Key × Da)}, DzK K F vs ds → vs.length = ds.length
  | _, _, .nil => rfl
  | _, _, .cons _ t => by simp [DzK.len t]
theorem DzT.len {K : PySem.W.Frag} {F : Hp} : ∀ {vs : List (List Key × V)} {ds : List (List Key × Da)}, DzT K F vs ds → vs.length = ds.length
  | _, _, .nil => rfl
  | _, _, .cons _ t => by simp [DzT.len t]
def putKM (j : Nat) (kvs : List (Key × Da)) (d : Da) : Option Key → VE → Out Fl
  | some k, e => if kvs.length < sizeLine then .ok .nx (e.set j (.odk (putD kvs k d))) else .no
  | none, _ => .no
def putTM (j : Nat) (kvs : List (List Key × Da)) (d : Da) : Option (List Key) → VE → Out Fl
  | some k, e => if kvs.length < sizeLine then .ok .nx (e.set j (.odt (putD kvs k d))) else .no
  | none, _ => .no
def putM (j : Nat) (d : Da) : Option Sl → Option Da → VE → Out Fl
  | some (.odk kvs), some key, e => putKM j kvs d (keyOf1 key) e
  | some (.odt kvs), some key, e => putTM j kvs d (keyOfT key) e
  | _, _, _ => .no
def isO : Option Sl → Bool
  | some (.odk _) | some (.odt _) => true
  | _ => false
def putV (j : Nat) (mi : ME) : Sl → VE → Out Fl
  | .val d, e => if isO e[j]? = true then (mOp mi e).bind fun rk e2 => putM j d e2[j]? (look rk e2) e2 else .no
  | _, _ => .no
def sDPut (j : Nat) (mi mv : ME) : MS := fun env => (mOp mv env).bind (putV j mi)
theorem s_dput {j : Nat} {x : Str} {p1 pos' : Pos} {i value : Expr} {mi mv : ME} (hu : X.A.units + 1 < cLine) (ho : PE X (.Name x p1) (tVar j)) (hi : VEj X C i mi) (hv : VEj X C value mv) (hs : swapsWith value (some (.Subscript (.Name x p1) i pos')) pos.line X.env = pure false := by rfl) :
    VSj X C (.Assign [.Subscript (.Name x p1) i pos'] value pos) (sDPut j mi mv) := PS.weak (ps_dput hu ho hi hv hs) fun D σ H ⟨F, env, S, q⟩ => by
  unfold sDPut at q
  rw [P_bind] at q
  refine op_run S (P_mono q (fun r1 e1 _ q => ?_) fun _ x => x)
  intro v1 F1 H1 t1 S1 R1 o1
  cases r1 with
  | val d =>
    have q : (if isO e1[j]? = true then (mOp mi e1).bind fun rk e2 => putM j d e2[j]? (look rk e2) e2 else Out.no).P _ _ := q
    by_cases hO : isO e1[j]? = true
    · rw [if_pos hO, P_bind] at q
      have there : ∃ a, σ[j]? = some (some (.ref a)) := by
        cases g : e1[j]? with
        | none => rw [g] at hO; cases hO
        | some t => rw [g] at hO; cases t <;> first | exact slot_there S1 g rfl | cases hO
      obtain ⟨a, ea⟩ := there
      refine ⟨.ref a, ea, op_run S1 (P_mono q (fun r2 e2 _ q => ?_) fun _ x => x.mono t1)⟩
      intro v2 F2 H2 t2 S2 R2 o2
      have z : Dz X.K F2 v1 d := Dz.mono t2 R1
      cases g1 : e2[j]? with
      | none => rw [g1] at q; exact q.elim
      | some t =>
        cases g2 : look r2 e2 with
        | none => rw [g1, g2] at q; cases t <;> exact q.elim
        | some key =>
          rw [g1, g2] at q
          have Dk := S2.look R2 g2
          have w := S2.slot j t g1
          cases t with
          | odk kvs =>
            have q : (putKM j kvs d (keyOf1 key) e2).P _ _ := q
            obtain ⟨b, ks, e0, p1, p2, p3, p4⟩ := w
            rw [ea] at e0
            cases e0
            cases g3 : keyOf1 key with
            | none => rw [g3] at q; exact q.elim
            | some k =>
              rw [g3] at q
              have q : (if kvs.length < sizeLine then Out.ok Fl.nx (e2.set j (.odk (putD kvs k d))) else .no).P _ _ := q
              by_cases hl : kvs.length < sizeLine
              · rw [if_pos hl] at q
                rw [keyOf1_of g3] at Dk
                have ey : v2 = kV k := by
                  cases k with
                  | inl i => exact Dk.int
                  | inr i => exact Dk.str
                subst ey
                exact ⟨a, _, rfl, DPut.k p1 (by rw [p4.len]; exact hl), q F2 _ σ (t1.trans t2) (S2.write g1 rfl ea (s' := .odk (putD kvs k d)) ⟨a, _, rfl, upd_same, p2, p3, put_k z p4⟩)⟩
              · rw [if_neg hl] at q
                exact q.elim
          | odt kvs =>
            have q : (putTM j kvs d (keyOfT key) e2).P _ _ := q
            obtain ⟨b, ks, e0, p1, p2, p3, p4⟩ := w
            rw [ea] at e0
            cases e0
            cases g3 : keyOfT key with
            | none => rw [g3] at q; exact q.elim
            | some k =>
              rw [g3] at q
              have q : (if kvs.length < sizeLine then Out.ok Fl.nx (e2.set j (.odt (putD kvs k d))) else .no).P _ _ := q
              by_cases hl : kvs.length < sizeLine
              · rw [if_pos hl] at q
                rw [keyOfT_of g3] at Dk
                obtain ⟨p, vs, rfl, h1, z1⟩ := Dk.tup
                have ev : ∀ {k : List Key} {vs : List V}, DzAll X.K F2 vs (k.map keyD) → vs = k.map kV := fun {k} => by
                  induction k with
                  | nil => intro vs z; cases z; rfl
                  | cons k ks ih =>
                    intro vs z
                    cases z with
                    | cons a t =>
                      rw [ih t]
                      cases k with
                      | inl i => cases a; rfl
                      | inr i => cases a; rfl
                have hp : H2 p = some (.tup (k.map kV)) := by rw [← ev z1]; exact S2.sub _ _ h1
                exact ⟨a, _, rfl, DPut.t p1 hp (by rw [p4.len]; exact hl), q F2 _ σ (t1.trans t2) (S2.write g1 rfl ea (s' := .odt (putD kvs k d)) ⟨a, _, rfl, upd_same, p2, p3, put_t z p4⟩)⟩
              · rw [if_neg hl] at q
                exact q.elim
          | _ => exact q.elim
    · rw [if_neg hO] at q
      exact q.elim
  | _ => exact q.elim
/-! ### isinstance -/
def tyN : Da → String
  | .none => "NoneType"
  | .bool _ => "bool"
  | .int _ => "int"
  | .str _ => "str"
  | .list _ => "list"
  | .tuple _ => "tuple"
  | .dict _ => "dict"
def fIsi (g : Da → Bool) : Da → Option Sl
  | .dict _ => none
  | d => some (.val (.bool (g d)))
def isInt : Da → Bool
  | .int _ | .bool _ => true
  | _ => false
def isBool : Da → Bool
  | .bool _ => true
  | _ => false
def isTup : Da → Bool
  | .tuple _ => true
  | _ => false
def isLst : Da → Bool
  | .list _ => true
  | _ => false
def isStr : Da → Bool
  | .str _ => true
  | _ => false
theorem k_int : ∀ d : Da, kitB (tyN d) "int" = some (isInt d)
  | .none => (by decide +kernel : kitB "NoneType" "int" = some false)
  | .bool _ => (by decide +kernel : kitB "bool" "int" = some true)
  | .int _ => (by decide +kernel : kitB "int" "int" = some true)
  | .str _ => (by decide +kernel : kitB "str" "int" = some false)
  | .list _ => (by decide +kernel : kitB "list" "int" = some false)
  | .tuple _ => (by decide +kernel : kitB "tuple" "int" = some false)
  | .dict _ => (by decide +kernel : kitB "dict" "int" = some false)
theorem k_bool : ∀ d : Da, kitB (tyN d) "bool" = some (isBool d)
  | .none => (by decide +kernel : kitB "NoneType" "bool" = some false)
  | .bool _ => (by decide +kernel : kitB "bool" "bool" = some true)
  | .int _ => (by decide +kernel : kitB "int" "bool" = some false)
  | .str _ => (by decide +kernel : kitB "str" "bool" = some false)
  | .list _ => (by decide +kernel : kitB "list" "bool" = some false)
  | .tuple _ => (by decide +kernel : kitB "tuple" "bool" = some false)
  | .dict _ => (by decide +kernel : kitB "dict" "bool" = some false)
theorem k_tup : ∀ d : Da, kitB (tyN d) "tuple" = some (isTup d)
  | .none => (by decide +kernel : kitB "NoneType" "tuple" = some false)
  | .bool _ => (by decide +kernel : kitB "bool" "tuple" = some false)
  | .int _ => (by decide +kernel : kitB "int" "tuple" = some false)
  | .str _ => (by decide +kernel : kitB "str" "tuple" = some false)
  | .list _ => (by decide +kernel : kitB "list" "tuple" = some false)
  | .tuple _ => (by decide +kernel : kitB "tuple" "tuple" = some true)
  | .dict _ => (by decide +kernel : kitB "dict" "tuple" = some false)
theorem k_lst : ∀ d : Da, kitB (tyN d) "list" = some (isLst d)
  | .none => (by decide +kernel : kitB "NoneType" "list" = some false)
  | .bool _ => (by decide +kernel : kitB "bool" "list" = some false)
  | .int _ => (by decide +kernel : kitB "int" "list" = some false)
  | .str _ => (by decide +kernel : kitB "str" "list" = some false)
  | .list _ => (by decide +kernel : kitB "list" "list" = some true)
  | .tuple _ => (by decide +kernel : kitB "tuple" "list" = some false)
  | .dict _ => (by decide +kernel : kitB "dict" "list" = some false)
theorem k_str : ∀ d : Da, kitB (tyN d) "str" = some (isStr d)
  | .none => (by decide +kernel : kitB "NoneType" "str" = some false)
  | .bool _ => (by decide +kernel : kitB "bool" "str" = some false)
  | .int _ => (by decide +kernel : kitB "int" "str" = some false)
  | .str _ => (by decide +kernel : kitB "str" "str" = some true)
  | .list _ => (by decide +kernel : kitB "list" "str" = some false)
  | .tuple _ => (by decide +kernel : kitB "tuple" "str" = some false)
  | .dict _ => (by decide +kernel : kitB "dict" "str" = some false)
theorem dw_ty {K : PySem.W.Frag} {F H : Hp} {x : V} {d : Da} (s : Same F H) (D : Dw K F H x d) (nd : ∀ kvs, d ≠ .dict kvs) : TyX K H x (.type (tyN d)) := by
  cases d with
  | none => rw [D.non]; exact .base .non
  | bool i => rw [D.bl]; exact .base (.bl i)
  | int i => rw [D.int]; exact .base (.int i)
  | str i => rw [D.str]; exact .base (.str i)
  | list xs => obtain ⟨p, vs, rfl, h1, _⟩ := D.lst s; exact .base (.lst h1)
  | tuple xs => obtain ⟨p, vs, rfl, h1, _⟩ := D.tup; exact .base (.tup (s _ _ h1))
  | dict kvs => exact absurd rfl (nd kvs)
theorem e_isi {T : String} {y : Str} {p q2 : Pos} {g : Da → Bool} (hk : ∀ d : Da, kitB (tyN d) T = some (g d)) (hg : Gl X "isinstance") (hm : X.mg "isinstance" = none) (hg2 : Gl X y) (hm2 : X.mg y = none) (hv2 : bootBuiltins y = some (.type T)) (ha : VEj X C a m)
    (hn : y ≠ "__name__" := by decide) (hd : (y == ("__debug__" : Str)) = false := by decide) (hv : bootBuiltins ("isinstance" : Str) = some (.builtin "isinstance") := by decide +kernel)
    (n1 : starEach [a, .Name y q2] X.env = (false, eval a X.env) :: starEach [.Name y q2] X.env := by rfl) (n2 : starEach [.Name y q2] X.env = (false, eval (.Name y q2) X.env) :: starEach [] X.env := by rfl)
    (hpl : (backTo pos (starEach [.Name y q2] X.env)).any (·.1) = false := by rfl) :
    VEj X C (.Call (.Name "isinstance" p) [a, .Name y q2] [] pos) (mUn (fIsi g) m) := by
  refine PE.weak (pe_callB call_isi hg hm hv (pa_cons ha (pa_cons (pe_bltn (v := .ty T) hg2 hm2 hv2 rfl hn hd) pa_nil n2) n1) (by decide) (by decide) n1 hpl) fun σ H Q h => ?_
  refine ow_un (r := fun x H1 Q => rIsi X.K [x, .ty T] H1 Q) (Owes1.flat fun F H x d res Q s D e k => ?_) h
  have nd : ∀ kvs, d ≠ .dict kvs := fun kvs z => by subst z; cases e
  have e' : some (Sl.val (.bool (g d))) = some res := by cases d <;> first | exact e | exact absurd rfl (nd _)
  exact ⟨x, .ty T, .type (tyN d), .type T, g d, rfl, .ty T, dw_ty s D nd, kit_ty (hk d), k _ _ (Option.some.inj e').symm (.bl _)⟩
end
end VL
namespace VL
open PySem PySem.Spec PyProof.Rows L2
section
variable {prog : Program} {w : World} {A : Around} {E : Value → Shared → Prop} {s : Shared}
theorem iteN {α : Type} {c : Prop} [Decidable c] {a b : Sem α} {Q : α → Shared → Prop} (h : ¬ c) (q : wpAny (model prog w) A b Q E s) : wpAny (model prog w) A (if c then a else b) Q E s := by
  rw [if_neg h]; exact q
/-- a slice's bounds by the step -1, nothing else told -/
theorem applied_back {sl : Addr} {vl vu vs : Value} {n : Nat} {Q : Int × Int × Nat → Shared → Prop} (hs : s.heap.IsSliceOf sl vl vu vs) (pl : IsPart vl none) (pu : IsPart vu none) (ps : IsPart vs (some (-1)))
    (h : Q ((n : Int) - 1, -1, n) s) : wpAny (model prog w) A (Builtin.Slice.sliceApplied (.ref sl) (pure (n : Int))) Q E s := by
  obtain ⟨ob, h1, h2, h3⟩ := id hs
  unfold Builtin.Slice.sliceApplied Builtin.Slice.sliceFields
  refine wpAny_bind (wpAny_bind (wpAny_field h1 h3 (x := vl) rfl ?_))
  refine wpAny_bind (wpAny_field h1 h3 (x := vu) rfl ?_)
  refine wpAny_bind (wpAny_field h1 h3 (x := vs) rfl (wpAny_pure ?_))
  refine wpAny_bind (HT.slicePart_ ps ?_)
  refine iteN (c := ((-1 : Int) == 0) = true) (by decide) ?_
  refine wpAny_bind (HT.slicePart_ pl (wpAny_bind (HT.slicePart_ pu (wpAny_bind (wpAny_pure ?_)))))
  have e1 : Builtin.Slice.sliceAdjust none none (-1) (n : Int) = ((n : Int) - 1, -1) := rfl
  have e2 : Builtin.Slice.slicePlaces ((n : Int) - 1) (-1) (-1) = n := by
    unfold Builtin.Slice.slicePlaces
    have g : ¬ ((-1 : Int) > 0) := by omega
    simp only [g, if_false]
    by_cases hn : ((n : Int) - 1) > -1
    · simp only [hn, if_true]
      have : ((n : Int) - 1 - -1 - 1) / (- -1) + 1 = (n : Int) := by
        have e : (- -1 : Int) = 1 := by decide
        rw [e, Int.ediv_one]
        omega
      rw [this]
      exact Int.toNat_natCast n
    · simp only [hn, if_false]
      have : n = 0 := by omega
      subst this
      rfl
  refine wpAny_of_eq ?_ h
  show (match Builtin.Slice.sliceAdjust none none (-1) (n : Int) with | (lo, hi) => pure (lo, (-1 : Int), Builtin.Slice.slicePlaces lo hi (-1))) = (pure ((n : Int) - 1, -1, n) : Sem (Int × Int × Nat))
  rw [e1]
  show (pure ((n : Int) - 1, (-1 : Int), Builtin.Slice.slicePlaces ((n : Int) - 1) (-1) (-1)) : Sem (Int × Int × Nat)) = _
  rw [e2]
theorem fm_congr {α β : Type} {f g : α → Option β} : ∀ {l : List α}, (∀ x ∈ l, f x = g x) → l.filterMap f = l.filterMap g
  | [], _ => rfl
  | x :: r, h => by
    rw [List.filterMap_cons, List.filterMap_cons, h x List.mem_cons_self, fm_congr fun y hy => h y (List.mem_cons_of_mem _ hy)]
theorem pick_back (items : Array Value) : ((List.range items.size).filterMap fun (k : Nat) => items[(((items.size : Int) - 1) + (k : Int) * -1).toNat]?).toArray = items.toList.reverse.toArray := by
  have e : ∀ (l : List Value), (List.range l.length).filterMap (fun (k : Nat) => l[(((l.length : Int) - 1) + (k : Int) * -1).toNat]?) = l.reverse := fun l => by
    have h1 : (List.range l.length).filterMap (fun (k : Nat) => l[(((l.length : Int) - 1) + (k : Int) * -1).toNat]?) = (List.range l.length).filterMap (fun k => l.reverse[k]?) := by
      refine fm_congr fun k hk => ?_
      have hk' := List.mem_range.mp hk
      have e2 : (((l.length : Int) - 1) + (k : Int) * -1).toNat = l.length - 1 - k := by omega
      rw [e2, List.getElem?_reverse (by omega)]
    rw [h1]
    have h2 : ∀ (m : List Value) (i : Nat), (List.range' i (m.length - i)).filterMap (fun k => m[k]?) = m.drop i := fun m i => by
      induction hn : m.length - i generalizing i with
      | zero => rw [List.drop_eq_nil_of_le (by omega)]; rfl
      | succ n ih =>
        have hi : i < m.length := by omega
        rw [List.range'_succ, List.filterMap_cons, List.getElem?_eq_getElem hi]
        have := ih (i + 1) (by omega)
        simp only [this]
        exact (List.drop_eq_getElem_cons hi).symm
    have h3 := h2 l.reverse 0
    rw [Nat.sub_zero, List.length_reverse, List.drop_zero] at h3
    rw [List.range_eq_range']
    exact h3
  have := e items.toList
  rw [Array.length_toList] at this
  have e3 : (fun (k : Nat) => items[(((items.size : Int) - 1) + (k : Int) * -1).toNat]?) = fun (k : Nat) => items.toList[(((items.size : Int) - 1) + (k : Int) * -1).toNat]? := by
    funext k
    rw [Array.getElem?_toList]
  rw [e3, this]
theorem item_back {t sl : Addr} {items : Array Value} {vl vu vs : Value} {Q : Value → Shared → Prop} (ht : IsTup s.heap t items) (hs : s.heap.IsSliceOf sl vl vu vs) (pl : IsPart vl none) (pu : IsPart vu none) (ps : IsPart vs (some (-1)))
    (h : Q (.ref s.heap.objs.size) { s with heap := s.heap.push { cls := .type "tuple", data := .seq items.toList.reverse.toArray } }) (hsz : items.size ≤ sizeLine) : wpAny (model prog w) A (getItem (.ref t) (.ref sl)) Q E s := by
  have hfit : sizeOk (.seq items.toList.reverse.toArray) := by
    show items.toList.reverse.toArray.size ≤ sizeLine
    rw [List.size_toArray, List.length_reverse, Array.length_toList]; exact hsz
  obtain ⟨ob, h1, h2, _⟩ := id hs
  have isS : s.TypeIs (.ref sl) "slice" := ⟨ob, h1, h2⟩
  unfold getItem
  try with_reducible refine wpAny_holding ?_
  first | refine wpAny_bind (wpAny_pure ?_) | skip
  refine wpAny_bind (wpAny_sequenceKey ht.typeIs (by decide) ?_)
  refine wpAny_bind (wpAny_callSpecial?_slot (name := Str.ofString "__getitem__") ht.typeIs slot_tuple_getitem ?_)
  refine wpAny_call_entry slot_tuple_getitem ht.typeIs entry_tuple_getitem ?_ (args_tuple_getitem _ _)
  show wpAny _ _ (Builtin.Tuple.tupleItemsOf (.ref t) >>= _) _ _ s
  refine wpAny_bind (tupleItemsOf_ ht ?_)
  refine wpAny_bind (wpAny_typeOf isS ?_)
  rw [if_pos (by decide)]
  refine wpAny_bind (applied_back hs pl pu ps ?_)
  refine iteN (c := (((items.size : Int) - 1 == 0 && (-1 : Int) == 1 && items.size == items.size) = true)) (by simp) ?_
  rw [pick_back]
  first
    | exact wpAny_bind (m := Builtin.Tuple.tupleExact _) (wpAny_newObj_type (wpAny_pure ⟨_, rfl, wpAny_pure h⟩) hfit)
    | exact wpAny_bind (m := Builtin.Tuple.tupleExact _) (wpAny_newObj_type (wpAny_bind (wpAny_pure (wpAny_pure ⟨_, rfl, wpAny_pure h⟩))) hfit)
    | exact wpAny_bind (wpAny_bind (m := Builtin.Tuple.tupleExact _) (wpAny_newObj_type (wpAny_pure (wpAny_pure ⟨_, rfl, wpAny_pure h⟩)) hfit))
    | exact wpAny_bind (wpAny_bind (m := Builtin.Tuple.tupleExact _) (wpAny_newObj_type (wpAny_pure ⟨_, rfl, wpAny_pure h⟩) hfit))
end
section
variable {X : Cx} {C : Cc} {a e : Expr} {te : TE} {m : ME} {pos : Pos}
/-- t[::-1], t a tuple -/
def tRevT (K : PySem.W.Frag) (te : TE) : TE := fun σ H Q => te σ H fun x H1 => ∃ a xs, x = .ref a ∧ SqT K H1 a xs ∧ ∀ p, H1 p = none → Q (.ref p) (upd H1 p (.tup xs.reverse))
theorem pe_revT {k : Nat} {p1 p2 p3 : Pos} (he : PE X e te) : PE X (.Subscript e (.Slice none none (some (.UnaryOp .USub (.Constant (.int 1) k p1) p2)) p3) pos) (tRevT X.K te) := by
  refine ⟨fun pins s σ H Q I h => Subscript_ (thn (he.run pins s σ H _ I h) fun v s1 ⟨x, H1, I1, r1, q1⟩ => ?_)⟩
  obtain ⟨a, xs, ex, hx, q⟩ := q1
  subst ex
  cases r1
  refine wpAny_Slice (thn (po_none.run pins s1 σ H1 (fun o H2 => o = none ∧ H2 = H1) I1 ⟨rfl, rfl⟩) fun vl s2 ⟨l, H2, I2, pl, el, e2⟩ => ?_)
  subst el
  subst e2
  refine thn (po_none.run pins s2 σ H2 (fun o H3 => o = none ∧ H3 = H2) I2 ⟨rfl, rfl⟩) fun vu s3 ⟨u, H3, I3, pu, eu, e3⟩ => ?_
  subst eu
  subst e3
  have step : PO X (some (.UnaryOp .USub (.Constant (.int 1) k p1) p2)) _ := po_some (pe_un un_neg pe_int)
  refine thn (step.run pins s3 σ H3 (fun o H4 => o = some (-1) ∧ H4 = H3) I3 ⟨1, rfl, -1, rfl, rfl, rfl⟩) fun vs s4 ⟨o, H4, I4, ps, eo, e4⟩ => ?_
  subst eo
  subst e4
  have I5 : Inv X pins σ H4 { s4 with heap := s4.heap.push { cls := .type "slice", data := .fields #[vl, vu, vs] } } := I4.kept (t' := s4.toks) fun b ob w => Heap.get?_push_of_some _ w
  obtain ⟨its, r, ht, hz⟩ := I5.tuple hx
  have hl := r.length
  show wpAny (model X.prog X.w) X.A (subscriptTail e (.Slice none none (some (.UnaryOp .USub (.Constant (.int 1) k p1) p2)) p3) (.ref a) (.ref s4.heap.objs.size)) (EP X pins σ Q) X.xe { s4 with heap := s4.heap.push { cls := .type "slice", data := .fields #[vl, vu, vs] } }
  refine tail_any (ops := [.ref a, .ref s4.heap.objs.size]) ht.typeIs (slot_tuple_getitem.lookup) ?_ (by with_unfolding_all rfl)
  refine item_back ht (Heap.IsSliceOf.new _ vl vu vs) pl pu ps ?_ (by rw [List.size_toArray]; omega)
  exact ⟨.ref _, _, I5.laid (t' := s4.toks) (o := .tup xs.reverse) (fun b ob w => Heap.get?_push_of_some _ w) (Nat.le_refl _) ⟨by rw [List.length_reverse]; exact hz, _, r.reverse, IsTup.new _ _⟩, rfl, q _ (I5.hok.fresh (Nat.le_refl _))⟩
theorem PE.or {e : Expr} {t t' : TE} (h : PE X e t) (h' : PE X e t') : PE X e (fun σ H Q => t σ H Q ∨ t' σ H Q) := ⟨fun pins s σ H Q I q => by
  rcases q with q | q
  · exact h.run pins s σ H Q I q
  · exact h'.run pins s σ H Q I q⟩
def rRevL (K : PySem.W.Frag) : V → Hp → VK → Prop := fun x H Q => ∃ a xs, x = .ref a ∧ SqL K H a xs ∧ ∀ p, H p = none → Q (.ref p) (upd H p (.lst xs.reverse))
def rRevT (K : PySem.W.Frag) : V → Hp → VK → Prop := fun x H Q => ∃ a xs, x = .ref a ∧ SqT K H a xs ∧ ∀ p, H p = none → Q (.ref p) (upd H p (.tup xs.reverse))
def fRev1 : Da → Option Sl
  | .list xs => some (.own xs.reverse)
  | _ => none
def fRev2 : Da → Option Sl
  | .tuple xs => some (.val (.tuple xs.reverse))
  | _ => none
theorem ow_rev1 (K : PySem.W.Frag) : Owes1 K (rRevL K) fRev1 := fun C F H σ env x dx res Q S Dx e k => by
  cases dx with
  | list xs =>
    cases e
    obtain ⟨p, vs, rfl, h1, z1⟩ := Dx.lst S.sub
    refine ⟨p, vs, rfl, .of h1, fun r hr => ?_⟩
    obtain ⟨n1, n2, n3⟩ := S.new hr
    exact k _ F _ (Same.refl F) (S.alloc hr) ⟨r, _, rfl, upd_same, n1, n2, z1.reverse, n3⟩
  | _ => cases e
theorem ow_rev2 (K : PySem.W.Frag) : Owes1 K (rRevT K) fRev2 := fun C F H σ env x dx res Q S Dx e k => by
  cases dx with
  | tuple xs =>
    cases e
    obtain ⟨p, vs, rfl, h1, z1⟩ := Dx.tup
    refine ⟨p, vs, rfl, .of (S.sub _ _ h1), fun r hr => ?_⟩
    obtain ⟨S2, s2⟩ := S.allocF (o := .tup vs.reverse) hr
    exact k _ _ _ s2 S2 (.tup upd_same (z1.reverse.mono s2))
  | _ => cases e
theorem un_cases {K : PySem.W.Frag} {f g : Da → Option Sl} {r r' : V → Hp → VK → Prop} {ma : ME} (w : Owes1 K r f) (w' : Owes1 K r' g) {σ : L2.St} {H : Hp} {Q : VK} (h : tM K C (mUn (fun d => (f d).or (g d)) ma) σ H Q) :
    (tM K C ma σ H fun x H1 => r x H1 Q) ∨ tM K C ma σ H fun x H1 => r' x H1 Q := by
  have key : tM K C (mUn f ma) σ H Q ∨ tM K C (mUn g ma) σ H Q := by
    obtain ⟨F, env, S, h⟩ := h
    unfold mUn at h
    cases q : mOp ma env with
    | no => rw [q] at h; exact h.elim
    | exc x => rw [q] at h; exact .inl ⟨F, env, S, by unfold mUn; rw [q]; exact h⟩
    | ok z e1 =>
      rw [q] at h
      have h : (app1 (fun d => (f d).or (g d)) (look z e1) e1).P _ _ := h
      cases q2 : look z e1 with
      | none => rw [q2] at h; exact h.elim
      | some d =>
        rw [q2, app1_some] at h
        cases q3 : f d with
        | some u => rw [q3] at h; exact .inl ⟨F, env, S, by unfold mUn; rw [q]; show (app1 f (look z e1) e1).P _ _; rw [q2, app1_some, q3]; exact h⟩
        | none => rw [q3] at h; exact .inr ⟨F, env, S, by unfold mUn; rw [q]; show (app1 g (look z e1) e1).P _ _; rw [q2, app1_some]; exact h⟩
  rcases key with h | h
  · exact .inl (ow_un w h)
  · exact .inr (ow_un w' h)
def fRev (d : Da) : Option Sl := (fRev1 d).or (fRev2 d)
theorem e_rev {ma : ME} {k : Nat} {p1 p2 p3 : Pos} (ha : VEj X C a ma) : VEj X C (.Subscript a (.Slice none none (some (.UnaryOp .USub (.Constant (.int 1) k p1) p2)) p3) pos) (mUn fRev ma) :=
  PE.weak (PE.or (pe_revL ha) (pe_revT ha)) fun σ H Q h => un_cases (ow_rev1 X.K) (ow_rev2 X.K) h
end
end VL
namespace VL
open PySem PySem.Spec PyProof.Rows L2
section
variable {X : Cx}
abbrev fIadd := iI0 fun i j => i + j
theorem d_iadd : OpD X (inplaceOp .Add) fIadd := opd_I0 iop_add
theorem d_isub : OpD X (inplaceOp .Sub) fSub := opd_I0 iop_sub
theorem d_imul : OpD X (inplaceOp .Mult) fMulI := opd_I iop_mul
theorem d_ifdiv : OpD X (inplaceOp .FloorDiv) fFdiv := opd_I iop_fdiv
theorem d_imod : OpD X (inplaceOp .Mod) fMod := opd_I iop_mod
theorem d_ishr : OpD X (inplaceOp .RShift) fShr := opd_I iop_shr
theorem d_ixor : OpD X (inplaceOp .BitXor) fXor := opd_I0 iop_xor
theorem d_iand : OpD X (inplaceOp .BitAnd) fAnd := opd_I0 iop_and
theorem d_ior : OpD X (inplaceOp .BitOr) fOr := opd_I0 iop_or
/-! sorted(..) of ints: a list's, a dict's keys -/
def ins (x : Int) : List Int → List Int
  | [] => [x]
  | y :: r => if x ≤ y then x :: y :: r else y :: ins x r
def isort : List Int → List Int
  | [] => []
  | x :: r => ins x (isort r)
theorem ins_perm (x : Int) : ∀ l : List Int, (ins x l).Perm (x :: l)
  | [] => .refl _
  | y :: r => by
    unfold ins
    split
    · exact .refl _
    · exact (List.Perm.cons y (ins_perm x r)).trans (List.Perm.swap x y r)
theorem isort_perm : ∀ l : List Int, (isort l).Perm l
  | [] => .refl _
  | x :: r => (ins_perm x _).trans (.cons x (isort_perm r))
theorem ins_sorted (x : Int) : ∀ l : List Int, l.Pairwise (· ≤ ·) → (ins x l).Pairwise (· ≤ ·)
  | [], _ => by simp [ins]
  | y :: r, h => by
    unfold ins
    obtain ⟨h1, h2⟩ := List.pairwise_cons.mp h
    split
    · rename_i hxy
      exact List.pairwise_cons.mpr ⟨fun z hz => by
        rcases List.mem_cons.mp hz with rfl | hz
        · exact hxy
        · exact Int.le_trans hxy (h1 z hz), h⟩
    · rename_i hxy
      refine List.pairwise_cons.mpr ⟨fun z hz => ?_, ins_sorted x r h2⟩
      rcases List.mem_cons.mp ((ins_perm x r).mem_iff.mp hz) with rfl | hz
      · omega
      · exact h1 z hz
theorem isort_sorted : ∀ l : List Int, (isort l).Pairwise (· ≤ ·)
  | [] => .nil
  | x :: r => ins_sorted x _ (isort_sorted r)
theorem isort_one {a b : List Int} (h : a.Perm b) (s : a.Pairwise (· ≤ ·)) : a = isort b := PySem.W.os_sorted_one (h.trans (isort_perm b).symm) s (isort_sorted b)
def sortI : Option (List Int) → Option Sl
  | some ns => some (.own ((isort ns).map PyData.int))
  | none => none
def fSortL : Da → Option Sl
  | .list xs => sortI (intsOf xs)
  | _ => none
theorem b_sortL : CaD X (.builtin "sorted") (ar1 fSortL) := by
  refine CaD.a1 cr_sortedI fun C F H σ env x dx res Q S Dx e k => ?_
  cases dx with
  | list xs =>
    have e : sortI (intsOf xs) = some res := e
    cases g : intsOf xs with
    | none => rw [g] at e; cases e
    | some ns =>
      rw [g] at e
      cases e
      obtain ⟨p, rfl, h1⟩ := dw_ints S.sub Dx g
      refine ⟨p, ns, rfl, .of h1, fun ns' r pm st hr => ?_⟩
      rw [isort_one pm st]
      obtain ⟨n1, n2, n3⟩ := S.new hr
      exact k _ F _ (Same.refl F) (S.alloc hr) ⟨r, _, rfl, upd_same, n1, n2, .of_ints, n3⟩
  | _ => cases e
def keysI : List (Key × Da) → Option (List Int)
  | [] => some []
  | (.inl i, _) :: r => match keysI r with
    | some ns => some (i :: ns)
    | none => none
  | _ => none
theorem keysI_eq {K : PySem.W.Frag} {F : Hp} : ∀ {vs : List (Key × V)} {ds : List (Key × Da)} {ns : List Int}, DzK K F vs ds → keysI ds = some ns → vs.map (·.1) = ns.map Sum.inl
  | _, _, ns, .nil, e => by cases e; rfl
  | _, _, ns, .cons (k := .inl i) (ds := ds) _ t, e => by
    unfold keysI at e
    cases g : keysI ds with
    | none => rw [g] at e; cases e
    | some ms => rw [g] at e; cases e; rw [List.map_cons, List.map_cons, keysI_eq t g]
  | _, _, ns, .cons (k := .inr i) _ t, e => by cases e
theorem keysI_len : ∀ {ds : List (Key × Da)} {ns : List Int}, keysI ds = some ns → ns.length = ds.length
  | [], _, e => by cases e; rfl
  | (.inl i, _) :: r, _, e => by
    unfold keysI at e
    cases g : keysI r with
    | none => rw [g] at e; cases e
    | some ms => rw [g] at e; cases e; rw [List.length_cons, List.length_cons, keysI_len g]
  | (.inr _, _) :: _, _, e => by cases e
end
/-! xs.count(k), ints -/
def cntI (k : Int) : Option (List Int) → Option Sl
  | some ns => some (.val (.int (ns.count k)))
  | none => none
def fCount (xs : List Da) : List Da → Option Sl
  | [.int k] => cntI k (intsOf xs)
  | _ => none
section
variable {X : Cx}
theorem m_count : MrD X "list.count" fCount := by
  refine ⟨_, mt_lcount, fun F H x xs args ds res Q s Dx Da' e k => ?_⟩
  match ds, e with
  | [.int i], e =>
    obtain ⟨y, rfl, Dy⟩ := dw1 Da'
    have e : cntI i (intsOf xs) = some res := e
    cases g : intsOf xs with
    | none => rw [g] at e; cases e
    | some ns =>
      rw [g] at e
      cases e
      obtain ⟨p, rfl, h1⟩ := dw_ints s Dx g
      have ey := Dy.int
      subst ey
      exact ⟨p, ns, i, rfl, rfl, .of h1, k _ _ rfl (.int _)⟩
/-- sorted(t), t a tuple of ints -/
def rSortTI (K : PySem.W.Frag) : List V → Hp → VK → Prop := fun vs H Q => ∃ (a : Addr) (ns : List Int), vs = [V.ref a] ∧ SqT K H a (ns.map V.int) ∧
  ∀ (ns' : List Int) (p : Addr), ns'.Perm ns → ns'.Pairwise (· ≤ ·) → H p = none → Q (.ref p) (upd H p (.lst (ns'.map V.int)))
theorem cr_sortTI : CallR X (.builtin "sorted") (rSortTI X.K) := by
  intro pins s σ H vs us Q I r h
  obtain ⟨a, ns, ev, hs, q⟩ := h
  subst ev
  obtain ⟨its, rv, ht, hz⟩ := I.tuple hs
  rw [Vals.ref1 r]
  have hi := rv.ints
  have hlI := rv.length
  have hz' : its.length ≤ sizeLine := by rw [← hlI]; exact hz
  obtain ⟨o, ho, hc, n, hd⟩ := ht
  refine Calls.call_function_entry kind_sorted plain_sorted entry_sorted (args_sorted1 _) ?_
  unfold Builtin.«sorted»
  refine wpAny_bind (m := checkCount "sorted" 1 1 _) (wpAny_pure ?_)
  refine wpAny_bind (wpAny_collect_seq a (.inr rfl) ho hc hd (fun h' hk => ?_) (by rw [List.size_toArray]; exact hz'))
  have I1 : Inv X pins σ H { s with heap := h' } := I.kept (t' := s.toks) hk
  refine wpAny_bind (wpAny_newList ?_ hz')
  have hoL : (h'.push (seqObj "list" its.toArray 0)).get? h'.objs.size = some (seqObj "list" its.toArray 0) := Heap.get?_push_size _ rfl
  show wpAny _ _ _ _ _ { s with heap := h'.push (seqObj "list" its.toArray 0) }
  refine wpAny_bind (wpAny_holding (wpAny_call_entry slot_list_sort ⟨_, hoL, rfl⟩ entry_list_sort
    (SrtO.list_sort_ord (s := { s with heap := h'.push (seqObj "list" its.toArray 0) }) SrtO.swo_int hoL hz' (fun h2 => SrtO.ints_sortable hi h2) fun out g1 g2 => ⟨_, rfl, ?_⟩) (args_list_sort _)))
  obtain ⟨k1, k2, k3⟩ := SrtO.ints_out hi g1 g2
  obtain ⟨e', he'⟩ := sortedHeap_at (vs := its) (out := out.toArray) hoL
  have hlen : ((out.map SrtO.iv).map V.int).length ≤ sizeLine := by
    rw [List.length_map, k2.length_eq]
    rw [List.length_map] at hz
    exact hz
  refine wpAny_pure ⟨_, rfl, .ref h'.objs.size, upd H h'.objs.size (.lst ((out.map SrtO.iv).map V.int)), I1.laid (t' := s.toks) (fun b u e => ?_) (Nat.le_refl _)
    (show ObjOk X.prog X.w _ _ _ (.lst ((out.map SrtO.iv).map V.int)) from ⟨hlen, out, e', vals_of_ints k1, he'⟩), rfl, q _ _ k2 k3 (I1.hok.fresh (Nat.le_refl _))⟩
  have hb : b < h'.objs.size := Heap.lt_size e
  rw [sortedHeap_old (Nat.ne_of_lt hb) (by rw [size_push']; exact Nat.lt_succ_of_lt hb)]
  exact Heap.get?_push_of_some _ e
def fSortT : Da → Option Sl
  | .tuple xs => sortI (intsOf xs)
  | _ => none
theorem b_sortT : CaD X (.builtin "sorted") (ar1 fSortT) := by
  refine CaD.a1 cr_sortTI fun C F H σ env x dx res Q S Dx e k => ?_
  cases dx with
  | tuple xs =>
    have e : sortI (intsOf xs) = some res := e
    cases g : intsOf xs with
    | none => rw [g] at e; cases e
    | some ns =>
      rw [g] at e
      cases e
      obtain ⟨p, vs, rfl, h1, z1⟩ := Dx.tup
      rw [intsOf_eq g] at z1
      have ev := z1.ints
      subst ev
      refine ⟨p, ns, rfl, .of (S.sub _ _ h1), fun ns' r pm st hr => ?_⟩
      rw [isort_one pm st]
      obtain ⟨n1, n2, n3⟩ := S.new hr
      exact k _ F _ (Same.refl F) (S.alloc hr) ⟨r, _, rfl, upd_same, n1, n2, .of_ints, n3⟩
  | _ => cases e
/-- sorted(d), d a dict with int keys, fewer than 64 -/
def sortK : Option (List Int) → Option Sl
  | some ns => if ns.length < 64 ∧ ns ≠ [] then some (.own ((isort ns).map PyData.int)) else none
  | none => none
def dkeys : List (Da × Da) → Option (List Int)
  | [] => some []
  | (.int i, _) :: r => match dkeys r with
    | some ns => some (i :: ns)
    | none => none
  | _ => none
def fSortD : Da → Option Sl
  | .dict kvs => sortK (dkeys kvs)
  | _ => none
theorem dkeys_kd : ∀ {ds : List (Key × Da)} {ns : List Int}, dkeys (kdK ds) = some ns → keysI ds = some ns
  | [], ns, h => h
  | (.inl i, d) :: r, ns, h => by
    have h : (match dkeys (kdK r) with
      | some ns => some (i :: ns)
      | none => none) = some ns := h
    unfold keysI
    cases g : dkeys (kdK r) with
    | none => rw [g] at h; cases h
    | some ms => rw [g] at h; cases h; rw [dkeys_kd g]
  | (.inr _, _) :: _, ns, h => by cases h
theorem dkeys_kt : ∀ {ds : List (List Key × Da)} {ns : List Int}, dkeys (kdT ds) = some ns → ds = [] ∧ ns = []
  | [], ns, h => by cases h; exact ⟨rfl, rfl⟩
  | _ :: _, ns, h => by cases h

theorem dkeys_nil : ∀ {kvs : List (Da × Da)}, dkeys kvs = some [] → kvs = []
  | [], _ => rfl
  | (.int i, _) :: r, h => by
    unfold dkeys at h
    cases g : dkeys r with
    | none => rw [g] at h; cases h
    | some ms => rw [g] at h; cases h
  | (.none, _) :: _, h => by cases h
  | (.bool _, _) :: _, h => by cases h
  | (.str _, _) :: _, h => by cases h
  | (.list _, _) :: _, h => by cases h
  | (.tuple _, _) :: _, h => by cases h
  | (.dict _, _) :: _, h => by cases h
theorem dkeys_t {ds : List (List Key × Da)} {ns : List Int} (h : dkeys (kdT ds) = some ns) : ds = [] ∧ ns = [] := by
  cases ds with
  | nil => cases h; exact ⟨rfl, rfl⟩
  | cons d r => cases h
theorem b_sortD (hc : X.calm = true) : CaD X (.builtin "sorted") (ar1 fSortD) := by
  refine CaD.a1 (call_sortedDI hc) fun C F H σ env x dx res Q S Dx e k => ?_
  cases dx with
  | dict kvs =>
    have e : sortK (dkeys kvs) = some res := e
    cases g : dkeys kvs with
    | none => rw [g] at e; cases e
    | some ns =>
      rw [g] at e
      obtain ⟨⟨h64, hne⟩, e⟩ := ite_some e
      subst e
      have fin : ∀ (a : Addr) (ks : List (Key × V)), x = .ref a → Rd H a (.dK ks) → ks.map (·.1) = ns.map Sum.inl → ∃ (a : Addr) (kvs : List (Key × V)) (ks : List Int), [x] = [.ref a] ∧ Rd H a (.dK kvs) ∧ kvs.map (·.1) = ks.map Sum.inl ∧ ks.length < 64 ∧
          ∀ (ys : List Int) (p : Addr), ys.Perm ks → ys.Pairwise (· ≤ ·) → H p = none → Q (.ref p) (upd H p (.lst (ys.map V.int))) := fun a ks ex rd ek => by
        refine ⟨a, ks, ns, by rw [ex], rd, ek, h64, fun ns' r pm st hr => ?_⟩
        rw [isort_one pm st]
        obtain ⟨n1, n2, n3⟩ := S.new hr
        exact k _ F _ (Same.refl F) (S.alloc hr) ⟨r, _, rfl, upd_same, n1, n2, .of_ints, n3⟩
      rcases Dx with h | ⟨_, _, _, _, h, _⟩ | ⟨a, ks, ds, rfl, h, h1, z⟩ | ⟨a, ks, ds, rfl, h, h1, z⟩
      · generalize hd : PyData.dict kvs = dd at h
        cases h with
        | dk h1 z =>
          cases hd
          exact fin _ _ rfl (.inr ⟨_, S.sub _ _ h1⟩) (keysI_eq z (dkeys_kd g))
        | dt h1 z => cases hd; exact absurd (dkeys_t g).2 hne
        | _ => cases hd
      · cases h
      · cases h
        exact fin _ _ rfl (.inl h1) (keysI_eq z (dkeys_kd g))
      · cases h
        exact absurd (dkeys_t g).2 hne
  | _ => cases e
def fSorted (d : Da) : Option Sl := (fSortL d).or ((fSortT d).or (fSortD d))
theorem ar1_or {f g : Da → Option Sl} {xs : List Da} : (ar1 f xs).or (ar1 g xs) = ar1 (fun d => (f d).or (g d)) xs := by
  match xs with
  | [] => rfl
  | [_] => rfl
  | _ :: _ :: _ => rfl
theorem b_sorted (hc : X.calm = true) : CaD X (.builtin "sorted") (ar1 fSorted) := by
  have h := b_sortL (X := X) |>.or (b_sortT.or (b_sortD hc))
  have e : (fun xs => (ar1 fSortL xs).or ((ar1 fSortT xs).or (ar1 fSortD xs))) = ar1 fSorted := by
    funext xs
    rw [ar1_or, ar1_or]
    rfl
  rw [← e]
  exact h
end
end VL
namespace VL
open PySem PySem.Spec PyProof.Rows L2
/-! ### for x in xs: d.setdefault(len(x), []).append(x): groups by length -/
structure Ent where
  n : Int
  p : Addr
  ws : List V
  xs : List Da
def entK (L : List Ent) : List (Key × V) := L.map fun e => (Sum.inl e.n, V.ref e.p)
def dat (L : List Ent) : List (Int × List Da) := L.map fun e => (e.n, e.xs)
def addG (L : List (Int × List Da)) (n : Int) (x : Da) : List (Int × List Da) := if L.any (fun e => decide (e.1 = n)) = true then L.map (fun e => if e.1 = n then (e.1, e.2 ++ [x]) else e) else L ++ [(n, [x])]
def grp : List Da → List (Int × List Da) → Option (List (Int × List Da))
  | [], L => some L
  | .list ys :: r, L => if L.length < sizeLine ∧ L.all (fun e => decide (e.2.length < sizeLine)) = true then grp r (addG L ys.length (.list ys)) else none
  | _ :: _, _ => none
def grpK (L : List (Int × List Da)) : List (Key × Da) := L.map fun e => (Sum.inl e.1, .list e.2)
def grpM (j r : Nat) : Option (List (Int × List Da)) → Option Sl → VE → Out Fl
  | some L, some (.odk []), e => if r < e.length ∧ j ≠ r then .ok .nx ((e.set r .no).set j (.odk (grpK L))) else .no
  | _, _, _ => .no
def sGroup (j r : Nat) (mi : MI) : MS := fun env => (mi env).bind fun xs e => grpM j r (grp xs []) e[j]? e
theorem Sta.poke {K : PySem.W.Frag} {C : Cc} {F H : Hp} {σ : L2.St} {env : VE} (S : Sta K C F H σ env) {a : Addr} {o : HO} (hf : F a = none) (h0 : C.H0 a = none) (ap : Apart σ env a) : Sta K C F (upd H a o) σ env := by
  have ne : ∀ {i : Nat} {s : Sl} {b : Addr}, env[i]? = some s → isOw s = true → σ[i]? = some (some (V.ref b)) → b ≠ a := fun {i s b} q ow e z => by subst z; exact ap i s q ow e
  refine ⟨S.len, fun b u q => ?_, S.mono, fun b u q io => ?_, S.fnew, fun b io => ⟨fun z => (S.iok b io).1 (upd_none z).2, (S.iok b io).2⟩, fun i s q => ?_, S.dist⟩
  · rw [upd_ne (ne_of_none q hf)]; exact S.sub b u q
  · rw [upd_ne (ne_of_none q h0)]; exact S.frame b u q io
  · have w := S.slot i s q
    cases s with
    | own xs => obtain ⟨b, vs, e, p1, p2⟩ := w; exact ⟨b, vs, e, by rw [upd_ne (ne q rfl e)]; exact p1, p2⟩
    | odk xs => obtain ⟨b, vs, e, p1, p2⟩ := w; exact ⟨b, vs, e, by rw [upd_ne (ne q rfl e)]; exact p1, p2⟩
    | odt xs => obtain ⟨b, vs, e, p1, p2⟩ := w; exact ⟨b, vs, e, by rw [upd_ne (ne q rfl e)]; exact p1, p2⟩
    | io xs => obtain ⟨b, vs, e, p0, p1, p2⟩ := w; exact ⟨b, vs, e, p0, by rw [upd_ne (ne q rfl e)]; exact p1, p2⟩
    | _ => exact w
/-- what one turn's body does -/
def tGrp (K : PySem.W.Frag) (j r : Nat) : TS := fun D σ H => ∃ (a : Addr) (x : V) (ks : List (Key × V)) (n : Nat), σ[j]? = some (some (.ref a)) ∧ σ[r]? = some (some x) ∧ H a = some (.dK ks) ∧ LenV K x H n ∧ (∀ q, H q = none → LenV K x (upd H q (.lst [])) n) ∧ ks.length < sizeLine ∧
  ∀ q, H q = none → (∀ v, valV ks (.inl (n : Int)) = some v → ∃ l ws, v = .ref l ∧ H l = some (.lst ws) ∧ ws.length < sizeLine ∧ D.nx σ (upd (upd H q (.lst [])) l (.lst (ws ++ [x])))) ∧
    (valV ks (.inl (n : Int)) = none → D.nx σ (upd (upd (upd H q (.lst [])) a (.dK (putK ks (.inl (n : Int)) (.ref q)))) q (.lst [x])))
section
variable {X : Cx} {C : Cc}
theorem grp_body {j r : Nat} {e0 : Expr} {pos : Pos} (he : PE X e0 (tBM X.K "list" rAppend (tDSetd (tVar j) (tCB (fun xs H Q => ∃ x n, xs = [x] ∧ LenV X.K x H n ∧ Q (.int n) H) (tCons (tVar r) tNil)) (tLst tNil)) (tCons (tVar r) tNil))) (hs : swapsWith e0 none pos.line X.env = pure false := by rfl) :
    PSs X [.Expr e0 pos] (tGrp X.K j r) := by
  refine PSs.weak (pss_one (ps_expr he hs)) fun D σ H ⟨a, x, ks, n, ej, er, ha, hl, hl2, hz, k⟩ => ?_
  refine ⟨.ref a, ej, a, rfl, .inl ⟨ks, .inl ha⟩, x, er, x, n, rfl, hl, ?_⟩
  refine ⟨by decide, fun q hq => ?_⟩
  obtain ⟨k1, k2⟩ := k q hq
  have ne : a ≠ q := ne_of_none ha hq
  refine ⟨ks, .inl n, by rw [upd_ne ne]; exact ha, rfl, hz, fun v hv => ?_, fun hn => ?_⟩
  · obtain ⟨l, ws, rfl, h1, h2, h3⟩ := k1 v hv
    have nl : l ≠ q := ne_of_none h1 hq
    refine ⟨.inl ⟨rfl, ws, .of (by rw [upd_ne nl]; exact h1)⟩, x, er, l, ws, x, rfl, rfl, by rw [upd_ne nl]; exact h1, h2, h3⟩
  · have h3 := k2 hn
    have hq' : upd (upd H q (.lst [])) a (.dK (putK ks (.inl (n : Int)) (.ref q))) q = some (.lst []) := by rw [upd_ne (Ne.symm ne), upd_same]
    exact ⟨.inl ⟨rfl, [], .of hq'⟩, x, er, q, [], x, rfl, rfl, hq', by decide, h3⟩

theorem valV_ent : ∀ {L : List Ent} {n : Int} {v : V}, valV (entK L) (.inl n) = some v → ∃ e ∈ L, e.n = n ∧ v = .ref e.p
  | e :: L, n, v, h => by
    by_cases q : (Sum.inl e.n : Key) = .inl n
    · rw [show entK (e :: L) = (Sum.inl e.n, V.ref e.p) :: entK L from rfl, valV_pos q] at h
      cases h
      exact ⟨e, List.mem_cons_self, Sum.inl.inj q, rfl⟩
    · rw [show entK (e :: L) = (Sum.inl e.n, V.ref e.p) :: entK L from rfl, valV_neg q] at h
      obtain ⟨e', h1, h2⟩ := valV_ent h
      exact ⟨e', List.mem_cons_of_mem _ h1, h2⟩
theorem valV_ent0 : ∀ {L : List Ent} {n : Int}, valV (entK L) (.inl n) = none → ∀ e ∈ L, e.n ≠ n
  | e :: L, n, h, e', m => by
    by_cases q : (Sum.inl e.n : Key) = .inl n
    · rw [show entK (e :: L) = (Sum.inl e.n, V.ref e.p) :: entK L from rfl, valV_pos q] at h
      cases h
    · rw [show entK (e :: L) = (Sum.inl e.n, V.ref e.p) :: entK L from rfl, valV_neg q] at h
      rcases List.mem_cons.mp m with rfl | m
      · exact fun z => q (by rw [z])
      · exact valV_ent0 h e' m
theorem dat_any {n : Int} : ∀ {L : List Ent}, (dat L).any (fun e => decide (e.1 = n)) = true ↔ ∃ e ∈ L, e.n = n
  | [] => by simp [dat]
  | e :: L => by
    rw [show dat (e :: L) = (e.n, e.xs) :: dat L from rfl, List.any_cons, Bool.or_eq_true, dat_any (L := L)]
    simp
theorem putK_new {L : List Ent} {n : Int} {q : Addr} {ws : List V} {xs : List Da} (h : ∀ e ∈ L, e.n ≠ n) : putK (entK L) (.inl n) (.ref q) = entK (L ++ [⟨n, q, ws, xs⟩]) := by
  unfold putK
  have : ((entK L).any fun kv => decide (kv.1 = Sum.inl n)) = false := by
    rw [List.any_eq_false]
    intro kv hkv z
    obtain ⟨e, he, rfl⟩ := List.mem_map.mp hkv
    exact h e he (Sum.inl.inj (of_decide_eq_true z))
  rw [this]
  show entK L ++ [_] = _
  unfold entK
  rw [List.map_append]
  rfl
def growE (n : Int) (v : V) (x : Da) (e : Ent) : Ent := if e.n = n then { e with ws := e.ws ++ [v], xs := e.xs ++ [x] } else e
theorem growE_n {n : Int} {v : V} {x : Da} {e : Ent} : (growE n v x e).n = e.n := by unfold growE; split <;> rfl
theorem growE_p {n : Int} {v : V} {x : Da} {e : Ent} : (growE n v x e).p = e.p := by unfold growE; split <;> rfl
theorem entK_grow {n : Int} {v : V} {x : Da} {L : List Ent} : entK (L.map (growE n v x)) = entK L := by
  unfold entK
  rw [List.map_map]
  exact List.map_congr_left fun e _ => by show (Sum.inl (growE n v x e).n, V.ref (growE n v x e).p) = _; rw [growE_n, growE_p]
theorem dat_grow {n : Int} {v : V} {x : Da} {L : List Ent} (h : ∃ e ∈ L, e.n = n) : dat (L.map (growE n v x)) = addG (dat L) n x := by
  unfold addG
  rw [if_pos (dat_any.mpr h)]
  unfold dat
  rw [List.map_map, List.map_map]
  refine List.map_congr_left fun e _ => ?_
  show ((growE n v x e).n, (growE n v x e).xs) = if e.n = n then (e.n, e.xs ++ [x]) else (e.n, e.xs)
  unfold growE
  split <;> rfl
theorem dat_new {n : Int} {v : V} {x : Da} {q : Addr} {L : List Ent} (h : ∀ e ∈ L, e.n ≠ n) : dat (L ++ [⟨n, q, [v], [x]⟩]) = addG (dat L) n x := by
  unfold addG
  rw [if_neg fun z => by obtain ⟨e, h1, h2⟩ := dat_any.mp z; exact h e h1 h2]
  unfold dat
  rw [List.map_append]
  rfl
/-- lists of one's own, in no slot, are frozen one after the other -/
theorem freeze_all {K : PySem.W.Frag} {H : Hp} {σ : L2.St} {env : VE} : ∀ {L : List Ent} {G : Hp}, Sta K C G H σ env → (∀ e ∈ L, H e.p = some (.lst e.ws) ∧ (G e.p = none ∨ G e.p = some (.lst e.ws)) ∧ C.H0 e.p = none ∧ Apart σ env e.p) →
    ∃ G', Same G G' ∧ Sta K C G' H σ env ∧ (∀ e ∈ L, G' e.p = some (.lst e.ws)) ∧ ∀ a, G' a ≠ none → G a ≠ none ∨ ∃ e ∈ L, a = e.p
  | [], G, S, _ => ⟨G, Same.refl _, S, (fun _ h => nomatch h), fun a h => .inl h⟩
  | e :: L, G, S, h => by
    obtain ⟨h1, h2, h3, h4⟩ := h e List.mem_cons_self
    have step : ∃ G1, Same G G1 ∧ Sta K C G1 H σ env ∧ G1 e.p = some (.lst e.ws) ∧ ∀ a, G1 a ≠ none → G a ≠ none ∨ a = e.p := by
      rcases h2 with h2 | h2
      · obtain ⟨S1, s1⟩ := S.freeze h1 h2 h3 h4
        exact ⟨_, s1, S1, upd_same, fun a z => (upd_nn z).symm⟩
      · exact ⟨G, Same.refl _, S, h2, fun a z => .inl z⟩
    obtain ⟨G1, s1, S1, g1, g2⟩ := step
    obtain ⟨G2, s2, S2, g3, g4⟩ := freeze_all (L := L) S1 fun e' m => by
      obtain ⟨k1, k2, k3, k4⟩ := h e' (List.mem_cons_of_mem _ m)
      refine ⟨k1, ?_, k3, k4⟩
      cases q : G1 e'.p with
      | none => exact .inl rfl
      | some u => right; rw [← k1]; exact (S1.sub _ _ q).symm
    refine ⟨G2, s1.trans s2, S2, fun e' m => ?_, fun a z => ?_⟩
    · rcases List.mem_cons.mp m with rfl | m
      · exact s2 _ _ g1
      · exact g3 e' m
    · rcases g4 a z with w | ⟨e', m, rfl⟩
      · rcases g2 a w with w | rfl
        · exact .inl w
        · exact .inr ⟨e, List.mem_cons_self, rfl⟩
      · exact .inr ⟨e', List.mem_cons_of_mem _ m, rfl⟩
theorem dz_ents {K : PySem.W.Frag} {G : Hp} : ∀ {L : List Ent}, (∀ e ∈ L, G e.p = some (.lst e.ws) ∧ DzAll K G e.ws e.xs) → DzK K G (entK L) (grpK (dat L))
  | [], _ => .nil
  | e :: L, h => .cons (.lst (h e List.mem_cons_self).1 (h e List.mem_cons_self).2) (dz_ents fun e' m => h e' (List.mem_cons_of_mem _ m))
structure GInv (K : PySem.W.Frag) (C : Cc) (G H : Hp) (σ : L2.St) (E : VE) (j : Nat) (d : Addr) (L : List Ent) : Prop where
  S : Sta K C G H σ E
  sj : σ[j]? = some (some (.ref d))
  hd : H d = some (.dK (entK L))
  fd : G d = none ∧ C.H0 d = none ∧ Apart σ E d
  ok : ∀ e ∈ L, H e.p = some (.lst e.ws) ∧ DzAll K G e.ws e.xs
  fr : ∀ e ∈ L, G e.p = none ∧ C.H0 e.p = none ∧ Apart σ E e.p
  un : ∀ e ∈ L, ∀ e' ∈ L, e.n = e'.n → e = e'
  up : ∀ e ∈ L, ∀ e' ∈ L, e.p = e'.p → e = e'
theorem GInv.old {K : PySem.W.Frag} {G H : Hp} {σ : L2.St} {E : VE} {j : Nat} {d : Addr} {L : List Ent} (I : GInv K C G H σ E j d L) {n : Int} {v : V} {x : Da} {q : Addr} {e : Ent} (hq : H q = none) (he : e ∈ L) (en : e.n = n) (z : Dz K G v x) :
    GInv K C G (upd (upd H q (.lst [])) e.p (.lst (e.ws ++ [v]))) σ E j d (L.map (growE n v x)) := by
  obtain ⟨f1, f2, f3⟩ := I.fr e he
  have S1 := (I.S.alloc (o := .lst []) hq).poke (o := .lst (e.ws ++ [v])) f1 f2 f3
  have dn : d ≠ e.p := fun w => by have h1 := (I.ok e he).1; rw [← w, I.hd] at h1; cases h1
  have mem : ∀ e' ∈ L.map (growE n v x), ∃ e'' ∈ L, e' = growE n v x e'' := fun e' m => by
    obtain ⟨e'', m2, rfl⟩ := List.mem_map.mp m
    exact ⟨e'', m2, rfl⟩
  refine ⟨S1, I.sj, by rw [upd_ne dn, upd_ne (ne_of_none I.hd hq), entK_grow]; exact I.hd, I.fd, fun e' m => ?_, fun e' m => ?_, fun a ma b mb ab => ?_, fun a ma b mb ab => ?_⟩
  · obtain ⟨e2, m2, rfl⟩ := mem e' m
    obtain ⟨k1, k2⟩ := I.ok e2 m2
    by_cases w : e2.n = n
    · have : e2 = e := I.un e2 m2 e he (w.trans en.symm)
      subst this
      unfold growE
      rw [if_pos w]
      exact ⟨upd_same, k2.append (.one z)⟩
    · have ne : e2.p ≠ e.p := fun p => w (by rw [I.up e2 m2 e he p]; exact en)
      unfold growE
      rw [if_neg w]
      exact ⟨by rw [upd_ne ne, upd_ne (ne_of_none k1 hq)]; exact k1, k2⟩
  · obtain ⟨e2, m2, rfl⟩ := mem e' m
    rw [growE_p]
    exact I.fr e2 m2
  · obtain ⟨a2, ma2, rfl⟩ := mem a ma
    obtain ⟨b2, mb2, rfl⟩ := mem b mb
    rw [growE_n, growE_n] at ab
    rw [I.un a2 ma2 b2 mb2 ab]
  · obtain ⟨a2, ma2, rfl⟩ := mem a ma
    obtain ⟨b2, mb2, rfl⟩ := mem b mb
    rw [growE_p, growE_p] at ab
    rw [I.up a2 ma2 b2 mb2 ab]
theorem GInv.new {K : PySem.W.Frag} {G H : Hp} {σ : L2.St} {E : VE} {j : Nat} {d : Addr} {L : List Ent} (I : GInv K C G H σ E j d L) {n : Int} {v : V} {x : Da} {q : Addr} (hq : H q = none) (hn : ∀ e ∈ L, e.n ≠ n) (z : Dz K G v x) :
    GInv K C G (upd (upd (upd H q (.lst [])) d (.dK (putK (entK L) (.inl n) (.ref q)))) q (.lst [v])) σ E j d (L ++ [⟨n, q, [v], [x]⟩]) := by
  obtain ⟨n1, n2, n3⟩ := I.S.new hq
  obtain ⟨f1, f2, f3⟩ := I.fd
  have S1 := ((I.S.alloc (o := .lst []) hq).poke (o := .dK (putK (entK L) (.inl n) (.ref q))) f1 f2 f3).poke (o := .lst [v]) n1 n2 n3
  have dq : d ≠ q := ne_of_none I.hd hq
  have pq : ∀ e ∈ L, e.p ≠ q := fun e m => ne_of_none (I.ok e m).1 hq
  refine ⟨S1, I.sj, by rw [upd_ne dq, upd_same, putK_new hn], I.fd, fun e m => ?_, fun e m => ?_, fun a ma b mb ab => ?_, fun a ma b mb ab => ?_⟩
  · rcases List.mem_append.mp m with m | m
    · obtain ⟨k1, k2⟩ := I.ok e m
      have dn : e.p ≠ d := fun w => by rw [w, I.hd] at k1; cases k1
      exact ⟨by rw [upd_ne (pq e m), upd_ne dn, upd_ne (pq e m)]; exact k1, k2⟩
    · cases List.mem_singleton.mp m
      exact ⟨upd_same, .one z⟩
  · rcases List.mem_append.mp m with m | m
    · exact I.fr e m
    · cases List.mem_singleton.mp m
      exact ⟨n1, n2, n3⟩
  · rcases List.mem_append.mp ma with ma | ma <;> rcases List.mem_append.mp mb with mb | mb
    · exact I.un a ma b mb ab
    · cases List.mem_singleton.mp mb; exact absurd ab (hn a ma)
    · cases List.mem_singleton.mp ma; exact absurd ab.symm (hn b mb)
    · cases List.mem_singleton.mp ma; cases List.mem_singleton.mp mb; rfl
  · rcases List.mem_append.mp ma with ma | ma <;> rcases List.mem_append.mp mb with mb | mb
    · exact I.up a ma b mb ab
    · cases List.mem_singleton.mp mb; exact absurd ab (pq a ma)
    · cases List.mem_singleton.mp ma; exact absurd ab.symm (pq b mb)
    · cases List.mem_singleton.mp ma; cases List.mem_singleton.mp mb; rfl
theorem get_no {env : VE} {i k : Nat} {s : Sl} (h : (env.set i .no)[k]? = some s) : s = .no ∨ (k ≠ i ∧ env[k]? = some s) := by
  rcases get_set h with ⟨_, h⟩ | h
  · exact .inl h
  · exact .inr h
theorem Sta.setNo {K : PySem.W.Frag} {F H : Hp} {σ : L2.St} {env : VE} (S : Sta K C F H σ env) {r : Nat} {v : V} (h : env[r]? = some .no) : Sta K C F H (σ.set r (some v)) env := by
  have e : env.set r .no = env := by
    refine List.ext_getElem? fun k => ?_
    by_cases hk : k = r
    · subst hk
      rw [List.getElem?_set_self (List.getElem?_eq_some_iff.mp h).1, h]
    · rw [List.getElem?_set_ne (Ne.symm hk)]
  refine ⟨by rw [List.length_set]; exact S.len, S.sub, S.mono, S.frame, S.fnew, S.iok, fun i s q => ?_, fun a b c s t ne e1 o1 e2 o2 g1 g2 => ?_⟩
  · by_cases hi : i = r
    · subst hi
      rw [h] at q
      cases q
      trivial
    · rw [List.getElem?_set_ne (Ne.symm hi)]
      exact S.slot i s q
  · have na : a ≠ r := fun z => by subst z; rw [h] at e1; cases e1; cases o1
    have nb : b ≠ r := fun z => by subst z; rw [h] at e2; cases e2; cases o2
    rw [List.getElem?_set_ne (Ne.symm na)] at g1
    rw [List.getElem?_set_ne (Ne.symm nb)] at g2
    exact S.dist a b c s t ne e1 o1 e2 o2 g1 g2
theorem apart_set {σ : L2.St} {E : VE} {r : Nat} {v : V} {a : Addr} (h : E[r]? = some .no) (ap : Apart σ E a) : Apart (σ.set r (some v)) E a := fun i s q ow e => by
  have ni : i ≠ r := fun z => by subst z; rw [h] at q; cases q; cases ow
  rw [List.getElem?_set_ne (Ne.symm ni)] at e
  exact ap i s q ow e
theorem s_group {j r : Nat} {tg iter : Expr} {body : List Stmt} {mi : MI} {pos : Pos} (hi : VIj X C tg iter mi) (hg : PG X tg (gName r)) (hb : PSs X body (tGrp X.K j r))
    (hps : {wi : TI} → {t : TG} → {tb : TS} → PI X tg iter wi → PG X tg t → PSs X body tb → PS X (.For tg iter body [] pos) (tFor wi t tb)) : VSj X C (.For tg iter body [] pos) (sGroup j r mi) := by
  refine PS.weak (hps hi hg hb) fun D σ H ⟨F, env, S, q⟩ => ?_
  unfold sGroup at q
  rw [P_bind] at q
  refine ⟨F, env, S, P_mono q (fun xs e _ q J F1 H1 t1 S1 it => ?_) fun _ x => x⟩
  cases hgr : grp xs [] with
  | none => rw [hgr] at q; exact q.elim
  | some Lf =>
  cases hs : e[j]? with
  | none => rw [hgr, hs] at q; exact q.elim
  | some t =>
  rw [hgr, hs] at q
  cases t with
  | odk kvs =>
    cases kvs with
    | cons _ _ => exact q.elim
    | nil =>
      have q : (if r < e.length ∧ j ≠ r then Out.ok Fl.nx ((e.set r .no).set j (.odk (grpK Lf))) else .no).P _ _ := q
      by_cases hl : r < e.length ∧ j ≠ r
      · rw [if_pos hl] at q
        obtain ⟨hr, hjr⟩ := hl
        obtain ⟨d, ks, e1, e2, e3, e4, e5⟩ := S1.slot j _ hs
        cases e5
        have jl : j < e.length := (List.getElem?_eq_some_iff.mp hs).1
        let E : VE := (e.set j .no).set r .no
        have Er : E[r]? = some .no := List.getElem?_set_self (by rw [List.length_set]; exact hr)
        have Ej : E[j]? = some .no := by
          show ((e.set j .no).set r .no)[j]? = _
          rw [List.getElem?_set_ne (Ne.symm hjr), List.getElem?_set_self jl]
        have apE : Apart σ E d := fun i s q ow z => by
          rcases get_no q with rfl | ⟨_, q⟩
          · cases ow
          · exact S1.apart hs rfl e1 i s q ow z
        have I0 : GInv X.K C F1 H1 σ E j d [] := ⟨(S1.drop j).drop r, e1, e2, ⟨e3, e4, apE⟩, (fun _ h => nomatch h), (fun _ h => nomatch h), (fun _ h => nomatch h), (fun _ h => nomatch h)⟩
        refine ⟨fun i m σ H => m = xs.length - i ∧ i ≤ xs.length ∧ ∃ G L, Same F1 G ∧ GInv X.K C G H σ E j d L ∧ grp (xs.drop i) (dat L) = some Lf, ⟨xs.length, by simp, Nat.zero_le _, F1, [], Same.refl _, I0, by rw [List.drop_zero]; exact hgr⟩, ?_⟩
        rintro i m σ2 H2 ⟨rfl, hle, G, L, t2, I, hL⟩
        obtain ⟨st, go⟩ := it i G H2 t2 I.S.sub
        by_cases hlt : i < xs.length
        · refine .inr ?_
          have hd : xs[i]? = some xs[i] := List.getElem?_eq_getElem hlt
          obtain ⟨g1, g2⟩ := go _ hd
          rw [drop_cons hd] at hL
          refine ⟨g1, fun σ' H' => ∃ G' L', Same F1 G' ∧ GInv X.K C G' H' σ' E j d L' ∧ grp (xs.drop (i + 1)) (dat L') = some Lf, fun σ' H' ⟨G', L', a1, a2, a3⟩ => ⟨xs.length - (i + 1), by omega, rfl, hlt, G', L', a1, a2, a3⟩, fun x H' y => ?_⟩
          obtain ⟨G', gr, zx⟩ := g2 x H' y
          have I3 : GInv X.K C G' H' σ2 E j d L ∧ Same G G' := by
            obtain ⟨S3, t3⟩ := I.S.growBy gr
            refine ⟨?_, t3⟩
            rcases gr with ⟨rfl, rfl⟩ | ⟨p, o, np, rfl, rfl⟩
            · exact I
            · have nd : d ≠ p := ne_of_none I.hd np
              refine ⟨S3, I.sj, by rw [upd_ne nd]; exact I.hd, ⟨by rw [upd_ne nd]; exact I.fd.1, I.fd.2⟩, fun e m => ?_, fun e m => ?_, I.un, I.up⟩
              · obtain ⟨k1, k2⟩ := I.ok e m
                exact ⟨by rw [upd_ne (ne_of_none k1 np)]; exact k1, k2.mono t3⟩
              · have k1 := (I.ok e m).1
                obtain ⟨k2, k3⟩ := I.fr e m
                exact ⟨by rw [upd_ne (ne_of_none k1 np)]; exact k2, k3⟩
          obtain ⟨I3, t3⟩ := I3
          have rl : r < σ2.length := by rw [I.S.len]; exact (List.getElem?_eq_some_iff.mp Er).1
          have I4 : GInv X.K C G' H' (σ2.set r (some x)) E j d L := ⟨I3.S.setNo Er, by rw [List.getElem?_set_ne (Ne.symm hjr)]; exact I3.sj, I3.hd, ⟨I3.fd.1, I3.fd.2.1, apart_set Er I3.fd.2.2⟩, I3.ok, fun e m => ⟨(I3.fr e m).1, (I3.fr e m).2.1, apart_set Er (I3.fr e m).2.2⟩, I3.un, I3.up⟩
          show tGrp X.K j r _ (σ2.set r (some x)) H'
          generalize hx : xs[i] = dx at zx hL
          cases dx with
          | list ys =>
            have hL : (if (dat L).length < sizeLine ∧ (dat L).all (fun e => decide (e.2.length < sizeLine)) = true then grp (xs.drop (i + 1)) (addG (dat L) ys.length (.list ys)) else none) = some Lf := hL
            by_cases hsz : (dat L).length < sizeLine ∧ (dat L).all (fun e => decide (e.2.length < sizeLine)) = true
            · rw [if_pos hsz] at hL
              obtain ⟨p, vs, rfl, h1, z1⟩ := Dw.lst I4.S.sub (Or.inl zx)
              have hlen := z1.length
              refine ⟨d, .ref p, entK L, ys.length, I4.sj, List.getElem?_set_self rl, I4.hd, .inl ⟨vs, .of h1, by rw [hlen]⟩, fun q hq => .inl ⟨vs, .of (by rw [upd_ne (ne_of_none h1 hq)]; exact h1), by rw [hlen]⟩, ?_, fun q hq => ⟨fun v hv => ?_, fun hn => ?_⟩⟩
              · have := hsz.1
                unfold dat at this
                unfold entK
                rw [List.length_map] at this ⊢
                exact this
              · obtain ⟨e', m', en, rfl⟩ := valV_ent hv
                refine ⟨e'.p, e'.ws, rfl, (I4.ok e' m').1, ?_, G', _, t2.trans t3, I4.old (x := .list ys) hq m' en zx, ?_⟩
                · have := List.all_eq_true.mp hsz.2 (e'.n, e'.xs) (List.mem_map.mpr ⟨e', m', rfl⟩)
                  have := of_decide_eq_true this
                  rw [(I4.ok e' m').2.length]
                  exact this
                · rw [dat_grow ⟨e', m', en⟩]; exact hL
              · have hn' := valV_ent0 hn
                exact ⟨G', _, t2.trans t3, I4.new (x := .list ys) hq hn' zx, by rw [dat_new hn']; exact hL⟩
            · rw [if_neg hsz] at hL; cases hL
          | _ => cases hL
        · have ei : i = xs.length := by omega
          refine .inl ⟨st (by omega), ?_⟩
          rw [ei, List.drop_length] at hL
          have hL : some (dat L) = some Lf := hL
          cases hL
          obtain ⟨G', s1, S2, g1, g2⟩ := freeze_all I.S fun e m => ⟨(I.ok e m).1, .inl (I.fr e m).1, (I.fr e m).2⟩
          have gd : G' d = none := by
            cases z : G' d with
            | none => rfl
            | some u =>
              rcases g2 d (by rw [z]; simp) with w | ⟨e', m', w⟩
              · exact absurd I.fd.1 w
              · have h1 := (I.ok e' m').1
                rw [← w, I.hd] at h1
                cases h1
          have S3 : Sta X.K C G' H2 σ2 (E.set j (.odk (grpK (dat L)))) := S2.reslot (s := .odk (grpK (dat L))) ⟨d, _, I.sj, I.hd, gd, I.fd.2.1, dz_ents fun e m => ⟨g1 e m, (I.ok e m).2.mono s1⟩⟩ fun _ a ea k t nk ek ok ekk => by
            rw [I.sj] at ea
            cases ea
            exact I.fd.2.2 k t ek ok ekk
          have eE : E.set j (.odk (grpK (dat L))) = (e.set r .no).set j (.odk (grpK (dat L))) := by
            show ((e.set j .no).set r .no).set j _ = _
            rw [List.set_comm _ _ hjr, List.set_set]
          rw [eE] at S3
          exact q G' H2 σ2 ((t1.trans t2).trans s1) S3
      · rw [if_neg hl] at q
        exact q.elim
  | _ => exact q.elim
end
/-- no promise -/
theorem fn_no {P : Program} {w : World} {K : PySem.W.Frag} {mg : Str → Option Value} {base : Heap} {x qual : Str} {st : Stmt} {f : Addr} {fd : FuncData} {N ps : List Str} {k : Nat} (Fu : Fun K x qual st f fd) (S : FnScope N ps (defScope st)) : FnOk P w K mg base CX0 (k + 1) f fd ps (spV K fun _ => .no) :=
  Fu.ok S (fun vs H Q E ⟨_, _, _, _, _, _, q⟩ => q.elim) fun cdv A outer s H vs Q E hr ⟨_, _, _, _, _, _, q⟩ => q.elim
end VL
namespace VL
open PySem PySem.Spec PyProof.Rows L2
/-- a def stands at the program's top -/
def DefAt (K : PySem.W.Frag) (x : Str) (st : Stmt) : Prop := ∃ f fd, PySem.W.nsIn K mainGlobals x = some (some (.ref f)) ∧ Fun K x x st f fd
theorem def_mk {K : PySem.W.Frag} {x : Str} {st : Stmt} {f : Addr} {oc : Value} {od an : Option Addr} {osl : Array (Option Value)} {kV doc pm cdv ct : Value} (a : PySem.W.nsIn K mainGlobals x = some (some (.ref f)))
    (l : K.lookup f = some ⟨oc, od, .func (PySem.W.fnOf x x (defArgs st) (defBody st) (defScope st) .none kV doc pm an cdv ct), osl⟩) (c : PySem.W.codeIn K cdv x = true) (k : PySem.W.keepIn K (.ref f) = true) : DefAt K x st :=
  ⟨f, _, a, fun_mk l c k⟩
/-- the law's end -/
theorem walk_fn {l : PySem.W.OpenLaw} {k : Nat} {q : Program} {loose : List Str} {XP : (Str → Option Value) → Heap → Prop} {YP : World → Heap → Prop} {d : DefRec} {K : Params → PySem.W.Frag} {fn : Fn} {st : Stmt}
    (hn : l.most = some 63) (hdf : d.params.defaults = []) (hr : Room k callerA) (hY : ∀ (w : World) (h : Heap), YP w h → (K w.params).In h) (hd : d.name = "law")
    (hb : ∀ (kV doc pm : Value) (an : Option Addr) (cdv ct : Value) (s : Shared) (v : Value), BindsTo s (PySem.W.fnOf "law" "law" (defArgs st) (defBody st) (defScope st) .none kV doc pm an cdv ct) ⟨[v], []⟩ [("script", v)])
    (math : ∀ ns : List Int, ns.length ≤ 63 → (∀ z ∈ ns, Builtin.Int.intBits z ≤ 1048576) → (fn [.scr ns]).P (fun r _ => r = .val (.bool true)) (fun _ => False))
    (F : ∀ (w : World) (mg : Str → Option Value) (h : Heap), (K w.params).In h → h.Ns mainGlobals mg → ∃ fa fd, mg "law" = some (.ref fa) ∧ Fun (K w.params) "law" "law" st fa fd ∧ ∀ base : Heap, (K w.params).In base → base.Ns mainGlobals mg → FnOk l.prog w (K w.params) mg base CX0 k fa fd ["script"] (spV (K w.params) fn)) :
    PySem.W.WalkO q loose XP YP l.row.toRowW d [] (fun f vs => PySem.call f vs) :=
  L2.walk_ofB (n := 63) (k := k) (x := "script") (CX := fun _ => CX0) (sp := fun w => spV (K w.params) fn) hn (by decide) hdf hr hY (fun w mg fa h KX G hmg => by
    obtain ⟨fa', fd, h1, h2, h3⟩ := F w mg h KX G
    rw [hd, h1] at hmg
    cases hmg
    refine ⟨fd, fun s u => ?_, h3⟩
    obtain ⟨oc, od, kV, doc, pm, an, cdv, ct, osl, rfl, _, _⟩ := h2.ex
    exact hb kV doc pm an cdv ct s u) (fun w H a ns hl hbit _ hS => by
    refine ⟨H, [.scr ns], none, ⟨⟨a, rfl, hS⟩, trivial⟩, Same.refl H, fun z => absurd rfl z, ?_⟩
    have m := math ns hl hbit
    cases g : fn [.scr ns] with
    | no => rw [g] at m; exact m.elim
    | exc x => rw [g] at m; exact m.elim
    | ok r io =>
      rw [g] at m
      have m : r = .val (.bool true) := m
      subst m
      intro v F' H' _ _ R
      cases (show Dz _ F' v (.bool true) from R)
      rfl) fun _ _ _ _ _ z => z
end VL
namespace VP
open PySem PySem.Spec PyProof.Rows L2 VL
def topS (i : Nat) : Stmt := PySem.Challenge.pw_backandon_k79_whole_two_turns.main.body.getD i (.Pass ⟨0, 0, 0, 0⟩)
abbrev s_1 : Stmt := topS 1
abbrev N_1 : List Str := ["row", "met", "found", "k", "ring"]
theorem sc_1 : FnScope N_1 ["row"] (defScope s_1) := ⟨rfl, rfl, rfl, by decide +kernel, rfl, by decide +kernel, by decide +kernel⟩
abbrev s_2 : Stmt := topS 2
abbrev N_2 : List Str := ["row", "found", "ring"]
theorem sc_2 : FnScope N_2 ["row"] (defScope s_2) := ⟨rfl, rfl, rfl, by decide +kernel, rfl, by decide +kernel, by decide +kernel⟩
abbrev s_3 : Stmt := topS 3
abbrev N_3 : List Str := ["row", "found", "length"]
theorem sc_3 : FnScope N_3 ["row"] (defScope s_3) := ⟨rfl, rfl, rfl, by decide +kernel, rfl, by decide +kernel, by decide +kernel⟩
abbrev s_4 : Stmt := topS 4
abbrev N_4 : List Str := ["row", "k", "found", "ring", "place", "number"]
theorem sc_4 : FnScope N_4 ["row", "k"] (defScope s_4) := ⟨rfl, rfl, rfl, by decide +kernel, rfl, by decide +kernel, by decide +kernel⟩
abbrev s_5 : Stmt := topS 5
abbrev N_5 : List Str := ["first", "second", "number"]
theorem sc_5 : FnScope N_5 ["first", "second"] (defScope s_5) := ⟨rfl, rfl, rfl, by decide +kernel, rfl, by decide +kernel, by decide +kernel⟩
abbrev s_6 : Stmt := topS 6
abbrev N_6 : List Str := ["value", "size", "number"]
theorem sc_6 : FnScope N_6 ["value", "size"] (defScope s_6) := ⟨rfl, rfl, rfl, by decide +kernel, rfl, by decide +kernel, by decide +kernel⟩
abbrev s_7 : Stmt := topS 7
abbrev N_7 : List Str := ["row", "first", "second", "ring", "place", "number"]
theorem sc_7 : FnScope N_7 ["row"] (defScope s_7) := ⟨rfl, rfl, rfl, by decide +kernel, rfl, by decide +kernel, by decide +kernel⟩
abbrev s_8 : Stmt := topS 8
abbrev N_8 : List Str := ["row", "value", "first", "second", "own", "part"]
theorem sc_8 : FnScope N_8 ["row", "value"] (defScope s_8) := ⟨rfl, rfl, rfl, by decide +kernel, rfl, by decide +kernel, by decide +kernel⟩
abbrev s_9 : Stmt := topS 9
abbrev N_9 : List Str := ["row", "other", "bound", "length", "count", "k"]
theorem sc_9 : FnScope N_9 ["row", "other"] (defScope s_9) := ⟨rfl, rfl, rfl, by decide +kernel, rfl, by decide +kernel, by decide +kernel⟩
abbrev s_10 : Stmt := topS 10
abbrev N_10 : List Str := ["x", "y"]
theorem sc_10 : FnScope N_10 ["x", "y"] (defScope s_10) := ⟨rfl, rfl, rfl, by decide +kernel, rfl, by decide +kernel, by decide +kernel⟩
abbrev s_12 : Stmt := topS 12
abbrev N_12 : List Str := ["script", "seed", "cell"]
theorem sc_12 : FnScope N_12 ["script"] (defScope s_12) := ⟨rfl, rfl, rfl, by decide +kernel, rfl, by decide +kernel, by decide +kernel⟩
abbrev s_13 : Stmt := topS 13
abbrev N_13 : List Str := ["draw", "many", "found"]
theorem sc_13 : FnScope N_13 ["draw", "many"] (defScope s_13) := ⟨rfl, rfl, rfl, by decide +kernel, rfl, by decide +kernel, by decide +kernel⟩
abbrev s_14 : Stmt := topS 14
abbrev N_14 : List Str := ["value", "due"]
theorem sc_14 : FnScope N_14 ["value", "due"] (defScope s_14) := ⟨rfl, rfl, rfl, by decide +kernel, rfl, by decide +kernel, by decide +kernel⟩
abbrev s_15 : Stmt := topS 15
abbrev N_15 : List Str := ["draw", "wires", "size", "left", "order", "row", "at", "length", "many", "ring", "k"]
theorem sc_15 : FnScope N_15 ["draw", "wires"] (defScope s_15) := ⟨rfl, rfl, rfl, by decide +kernel, rfl, by decide +kernel, by decide +kernel⟩
abbrev s_18 : Stmt := topS 18
abbrev N_18 : List Str := ["first", "second", "number"]
theorem sc_18 : FnScope N_18 ["first", "second"] (defScope s_18) := ⟨rfl, rfl, rfl, by decide +kernel, rfl, by decide +kernel, by decide +kernel⟩
abbrev s_20 : Stmt := topS 20
abbrev N_20 : List Str := ["value", "size", "item"]
theorem sc_20 : FnScope N_20 ["value", "size"] (defScope s_20) := ⟨rfl, rfl, rfl, by decide +kernel, rfl, by decide +kernel, by decide +kernel⟩
abbrev s_22 : Stmt := topS 22
abbrev N_22 : List Str := ["draw", "data", "at"]
theorem sc_22 : FnScope N_22 ["draw", "data"] (defScope s_22) := ⟨rfl, rfl, rfl, by decide +kernel, rfl, by decide +kernel, by decide +kernel⟩
abbrev s_23 : Stmt := topS 23
abbrev N_23 : List Str := ["row", "value", "plain", "part"]
theorem sc_23 : FnScope N_23 ["row", "value"] (defScope s_23) := ⟨rfl, rfl, rfl, by decide +kernel, rfl, by decide +kernel, by decide +kernel⟩
abbrev s_24 : Stmt := topS 24
abbrev N_24 : List Str := ["script", "draw", "wires", "row", "other", "told", "plain", "values", "value", "powers", "now", "goal", "due", "found"]
theorem sc_24 : FnScope N_24 ["script"] (defScope s_24) := ⟨rfl, rfl, rfl, by decide +kernel, rfl, by decide +kernel, by decide +kernel⟩
structure Txt (K : PySem.W.Frag) (mg : Str → Option Value) (A : Nat → Addr) (Fd : Nat → FuncData) : Prop where
  b_abs : mg "abs" = none
  b_all : mg "all" = none
  b_bool : mg "bool" = none
  b_enumerate : mg "enumerate" = none
  b_int : mg "int" = none
  b_isinstance : mg "isinstance" = none
  b_len : mg "len" = none
  b_list : mg "list" = none
  b_min : mg "min" = none
  b_range : mg "range" = none
  b_sorted : mg "sorted" = none
  b_tuple : mg "tuple" = none
  m_1 : mg "rings_of" = some (.ref (A 1))
  f_1 : Fun K "rings_of" "rings_of" s_1 (A 1) (Fd 1)
  p_1 : Binds K (Fd 1) ["row"] []
  m_2 : mg "by_length" = some (.ref (A 2))
  f_2 : Fun K "by_length" "by_length" s_2 (A 2) (Fd 2)
  p_2 : Binds K (Fd 2) ["row"] []
  m_3 : mg "ring_counts" = some (.ref (A 3))
  f_3 : Fun K "ring_counts" "ring_counts" s_3 (A 3) (Fd 3)
  p_3 : Binds K (Fd 3) ["row"] []
  m_4 : mg "powered" = some (.ref (A 4))
  f_4 : Fun K "powered" "powered" s_4 (A 4) (Fd 4)
  p_4 : Binds K (Fd 4) ["row", "k"] []
  m_5 : mg "behind_each_other" = some (.ref (A 5))
  f_5 : Fun K "behind_each_other" "behind_each_other" s_5 (A 5) (Fd 5)
  p_5 : Binds K (Fd 5) ["first", "second"] []
  m_6 : mg "is_table" = some (.ref (A 6))
  f_6 : Fun K "is_table" "is_table" s_6 (A 6) (Fd 6)
  p_6 : Binds K (Fd 6) ["value", "size"] []
  m_7 : mg "two_turns" = some (.ref (A 7))
  f_7 : Fun K "two_turns" "two_turns" s_7 (A 7) (Fd 7)
  p_7 : Binds K (Fd 7) ["row"] []
  m_8 : mg "takes_turns" = some (.ref (A 8))
  f_8 : Fun K "takes_turns" "takes_turns" s_8 (A 8) (Fd 8)
  p_8 : Binds K (Fd 8) ["row", "value"] []
  m_9 : mg "least_power" = some (.ref (A 9))
  f_9 : Fun K "least_power" "least_power" s_9 (A 9) (Fd 9)
  p_9 : Binds K (Fd 9) ["row", "other"] []
  m_10 : mg "divisor_of" = some (.ref (A 10))
  f_10 : Fun K "divisor_of" "divisor_of" s_10 (A 10) (Fd 10)
  p_10 : Binds K (Fd 10) ["x", "y"] []
  m_12 : mg "_law_draw" = some (.ref (A 12))
  f_12 : Fun K "_law_draw" "_law_draw" s_12 (A 12) (Fd 12)
  p_12 : Binds K (Fd 12) ["script"] []
  m_13 : mg "_law_take" = some (.ref (A 13))
  f_13 : Fun K "_law_take" "_law_take" s_13 (A 13) (Fd 13)
  p_13 : Binds K (Fd 13) ["draw", "many"] []
  m_14 : mg "_law_says" = some (.ref (A 14))
  f_14 : Fun K "_law_says" "_law_says" s_14 (A 14) (Fd 14)
  p_14 : Binds K (Fd 14) ["value", "due"] []
  m_15 : mg "_law_perm" = some (.ref (A 15))
  f_15 : Fun K "_law_perm" "_law_perm" s_15 (A 15) (Fd 15)
  p_15 : Binds K (Fd 15) ["draw", "wires"] []
  m_18 : mg "_law_behind" = some (.ref (A 18))
  f_18 : Fun K "_law_behind" "_law_behind" s_18 (A 18) (Fd 18)
  p_18 : Binds K (Fd 18) ["first", "second"] []
  m_20 : mg "_law_is_table" = some (.ref (A 20))
  f_20 : Fun K "_law_is_table" "_law_is_table" s_20 (A 20) (Fd 20)
  p_20 : Binds K (Fd 20) ["value", "size"] []
  m_22 : mg "_law_bent" = some (.ref (A 22))
  f_22 : Fun K "_law_bent" "_law_bent" s_22 (A 22) (Fd 22)
  p_22 : Binds K (Fd 22) ["draw", "data"] []
  m_23 : mg "_law_right" = some (.ref (A 23))
  f_23 : Fun K "_law_right" "_law_right" s_23 (A 23) (Fd 23)
  p_23 : Binds K (Fd 23) ["row", "value"] []
  m_24 : mg "law" = some (.ref (A 24))
  f_24 : Fun K "law" "law" s_24 (A 24) (Fd 24)
  p_24 : Binds K (Fd 24) ["script"] []

/-! ### mirrors -/
noncomputable section
/-- rings_of -/
def ms_1 : MS :=
 (sSeq (sAsg mNewK (gNm 1))
 (sSeq (sAsg (mList (mArgs [])) (gNm 2))
 (sSeq (sFor (mRg1 (mCallB (ar1 fLen) (mArgs [(mPk 0)]))) (gNm 3)
 (sIf (mTB (mDIn true (mPk 3) (mPk 1)))
 (sSeq (sAsg (mList (mArgs [(mVar 3)])) (gNm 4))
 (sSeq (sDPut 1 (mPk 3) (mC (.bool true)))
 (sSeq (sWhile (mTB (mBin fNe (mBin fIx (mPk 0) (mBin fIx (mPk 4) (mUn fNeg (mC (.int 1))))) (mPk 3)))
 (sSeq (sExpr (mMeth 4 fAppend (mArgs [(mBin fIx (mPk 0) (mBin fIx (mPk 4) (mUn fNeg (mC (.int 1)))))])))
 (sDPut 1 (mBin fIx (mPk 4) (mUn fNeg (mC (.int 1)))) (mC (.bool true)))))
 (sExpr (mMeth 2 fAppend (mArgs [(mVar 4)]))))))
 sNext))
 (sRet (mTake 2)))))
def fn_1 : Fn := bodyF 1 5 ms_1
/-- by_length -/
def ms_2 : MS :=
 (sSeq (sAsg mNewK (gNm 1))
 (sSeq (sGroup 1 2 (mIt (mCall fn_1 (mArgs [(mVar 0)]))))
 (sRet (mTake 1))))
def fn_2 : Fn := bodyF 1 3 ms_2
/-- ring_counts -/
def ms_3 : MS :=
 (sSeq (sAsg (mCall fn_2 (mArgs [(mVar 0)])) (gNm 1))
 (sRet (mCallB (ar1 fTuple) (mArgs [(mComp (mIt (mCallB (ar1 fSorted) (mArgs [(mPk 1)]))) (.one 2) yesT (mTup (mArgs [(mVar 2), (mCallB (ar1 fLen) (mArgs [(mDGet (mPk 1) (mPk 2))]))])) [2])]))))
def fn_3 : Fn := bodyF 1 3 ms_3
/-- powered -/
def ms_4 : MS :=
 (sSeq (sAsg (mUn (rg1 fRgL) (mCallB (ar1 fLen) (mArgs [(mPk 0)]))) (gNm 2))
 (sSeq (sFor (mIt (mCall fn_1 (mArgs [(mVar 0)]))) (gNm 3)
 (sFor (mEnum (mVar 3)) (gTuN 2 [(gNm 4), (gNm 5)])
 (sAsg (mOp (mBin fIx (mPk 3) (mBin fMod (mBin fAdd (mPk 4) (mPk 1)) (mCallB (ar1 fLen) (mArgs [(mPk 3)]))))) (gSub 2 (mPk 5)))))
 (sRet (mCallB (ar1 fTuple) (mArgs [(mPk 2)])))))
def fn_4 : Fn := bodyF 2 6 ms_4
/-- behind_each_other -/
def ms_5 : MS :=
 (sRet (mCallB (ar1 fTuple) (mArgs [(mComp (mIt (mVar 0)) (.one 2) yesT (mBin fIx (mPk 1) (mPk 2)) [2])])))
def fn_5 : Fn := bodyF 2 3 ms_5
/-- is_table -/
def ms_6 : MS :=
 (sSeq (sIf (mOr (mNot (mTru (mUn (fIsi isTup) (mPk 0)))) (mTB (mBin fNe (mCallB (ar1 fLen) (mArgs [(mPk 0)])) (mPk 1))))
 (sRet (mC (.bool false)))
 sNext)
 (sSeq (sIf (mNot (mTru (mCallB (ar1 fAll) (mArgs [(mComp (mIt (mVar 0)) (.one 2) yesT (mAndV (mUn (fIsi isInt) (mPk 2)) (mBV (mNot (mTB (mUn (fIsi isBool) (mPk 2)))))) [2])]))))
 (sRet (mC (.bool false)))
 sNext)
 (sRet (mBin fEq (mCallB (ar1 fSorted) (mArgs [(mPk 0)])) (mUn (rg1 fRgL) (mPk 1))))))
def fn_6 : Fn := bodyF 2 3 ms_6
/-- two_turns -/
def ms_7 : MS :=
 (sSeq (sPar 1 2 (mUn (rg1 fRgL) (mCallB (ar1 fLen) (mArgs [(mPk 0)]))) (mUn (rg1 fRgL) (mCallB (ar1 fLen) (mArgs [(mPk 0)]))))
 (sSeq (sFor (mIt (mCall fn_1 (mArgs [(mVar 0)]))) (gNm 3)
 (sFor (mEnum (mVar 3)) (gTuN 2 [(gNm 4), (gNm 5)])
 (sSeq (sAsg (mOp (mBin fIx (mPk 3) (mUn fNeg (mPk 4)))) (gSub 1 (mPk 5)))
 (sAsg (mOp (mBin fIx (mPk 3) (mBin fMod (mBin fSub (mC (.int 1)) (mPk 4)) (mCallB (ar1 fLen) (mArgs [(mPk 3)]))))) (gSub 2 (mPk 5))))))
 (sRet (mTup (mArgs [(mCallB (ar1 fTuple) (mArgs [(mPk 1)])), (mCallB (ar1 fTuple) (mArgs [(mPk 2)]))])))))
def fn_7 : Fn := bodyF 1 6 ms_7
/-- takes_turns -/
def ms_8 : MS :=
 (sSeq (sIf (mOr (mNot (mTru (mUn (fIsi isTup) (mPk 1)))) (mOr (mTB (mBin fNe (mCallB (ar1 fLen) (mArgs [(mPk 1)])) (mC (.int 2)))) (mNot (mTru (mCallB (ar1 fAll) (mArgs [(mComp (mIt (mVar 1)) (.one 5) yesT (mCall fn_6 (mArgs [(mVar 5), (mCallB (ar1 fLen) (mArgs [(mPk 0)]))])) [5])]))))))
 (sRet (mC (.bool false)))
 sNext)
 (sSeq (sAsg (mOp (mVar 1)) (gTuN 2 [(gNm 2), (gNm 3)]))
 (sSeq (sAsg (mComp (mIt (mVar 1)) (.one 5) yesT (mBin fEq (mCall fn_5 (mArgs [(mVar 5), (mVar 5)])) (mUn (rg1 fRgT) (mCallB (ar1 fLen) (mArgs [(mPk 0)])))) [5]) (gNm 4))
 (sRet (mAndV (mCallB (ar1 fAll) (mArgs [(mPk 4)])) (mBin fEq (mCall fn_5 (mArgs [(mVar 2), (mVar 3)])) (mCallB (ar1 fTuple) (mArgs [(mPk 0)]))))))))
def fn_8 : Fn := bodyF 2 6 ms_8
/-- divisor_of -/
def ms_10 : MS :=
 (sSeq (sWhile (mTB (mBin fGt (mPk 1) (mC (.int 0))))
 (sPar 0 1 (mVar 1) (mBin fMod (mPk 0) (mPk 1))))
 (sRet (mTake 0)))
def fn_10 : Fn := bodyF 2 2 ms_10
/-- least_power -/
def ms_9 : MS :=
 (sSeq (sAsg (mC (.int 1)) (gNm 2))
 (sSeq (sFor (mIt (mCall fn_3 (mArgs [(mVar 0)]))) (gTuN 2 [(gNm 3), (gNm 4)])
 (sAug 2 fMulI (mBin fFdiv (mPk 3) (mCall fn_10 (mArgs [(mVar 2), (mVar 3)])))))
 (sSeq (sFor (mRg1 (mCallB (ar2 fMin2) (mArgs [(mPk 2), (mC (.int 100000))]))) (gNm 5)
 (sIf (mTB (mBin fEq (mCall fn_4 (mArgs [(mVar 0), (mVar 5)])) (mCallB (ar1 fTuple) (mArgs [(mPk 1)]))))
 (sRet (mTake 5))
 sNext))
 (sRet (mC .none)))))
def fn_9 : Fn := bodyF 2 6 ms_9
/-- _law_draw -/
def ms_12 : MS :=
 (sSeq (sAsg (mC (.int 7)) (gNm 1))
 (sSeq (sFor (mIt (mVar 0)) (gNm 2)
 (sAsg (mBin fMod (mCallB (ar1 fInt) (mArgs [(mBin fAdd (mBin fAdd (mBin fMul (mPk 1) (mC (.int 48271))) (mBin fMod (mCallB (ar1 fAbs) (mArgs [(mCallB (ar1 fInt) (mArgs [(mPk 2)]))])) (mC (.int 65521)))) (mC (.int 1)))])) (mC (.int 2147483647))) (gNm 1)))
 (sRet (mList (mArgs [(mComp (mIt (mVar 0)) (.one 2) yesT (mCallB (ar1 fAbs) (mArgs [(mCallB (ar1 fInt) (mArgs [(mPk 2)]))])) [2]), (mUn fNeg (mC (.int 1))), (mC (.int 0)), (mVar 1)])))))
def fn_12 : Fn := bodyF 1 3 ms_12
/-- _law_take -/
def ms_13 : MS :=
 (sSeq (sIf (mTB (mBin fEq (mBin fIx (mPk 0) (mC (.int 2))) (mC (.int 0))))
 (sSeq (sAsg (mOp (mBin fAdd (mBin fIx (mPk 0) (mC (.int 1))) (mC (.int 1)))) (gSub 0 (mC (.int 1))))
 (sSeq (sIf (mTB (mBin fLt (mBin fIx (mPk 0) (mC (.int 1))) (mCallB (ar1 fLen) (mArgs [(mBin fIx (mPk 0) (mC (.int 0)))]))))
 (sAsg (mOp (mBin fIx (mBin fIx (mPk 0) (mC (.int 0))) (mBin fIx (mPk 0) (mC (.int 1))))) (gSub 0 (mC (.int 2))))
 sNext)
 (sIf (mTB (mBin fEq (mBin fIx (mPk 0) (mC (.int 2))) (mC (.int 0))))
 (sSeq (sAsg (mOp (mBin fMod (mCallB (ar1 fInt) (mArgs [(mBin fAdd (mBin fMul (mBin fIx (mPk 0) (mC (.int 3))) (mC (.int 48271))) (mC (.int 11)))])) (mC (.int 2147483647)))) (gSub 0 (mC (.int 3))))
 (sAsg (mOp (mBin fIx (mPk 0) (mC (.int 3)))) (gSub 0 (mC (.int 2)))))
 sNext)))
 sNext)
 (sSeq (sAsg (mBin fMod (mCallB (ar1 fInt) (mArgs [(mBin fIx (mPk 0) (mC (.int 2)))])) (mPk 1)) (gNm 2))
 (sSeq (sAsg (mOp (mBin fFdiv (mBin fIx (mPk 0) (mC (.int 2))) (mPk 1))) (gSub 0 (mC (.int 2))))
 (sRet (mTake 2)))))
def fn_13 : Fn := bodyF 2 3 ms_13
/-- _law_says -/
def ms_14 : MS :=
 (sRet (mAndV (mUn (fIsi isBool) (mPk 0)) (mBin fEq (mPk 0) (mPk 1))))
def fn_14 : Fn := bodyF 2 2 ms_14
/-- _law_perm -/
def ms_15 : MS :=
 (sSeq (sAsg (mBin fShl (mC (.int 1)) (mPk 1)) (gNm 2))
 (sSeq (sPar 3 4 (mUn (rg1 fRgL) (mPk 2)) (mList (mArgs [])))
 (sSeq (sWhile (mTB (mBin fNe (mPk 3) (mList (mArgs []))))
 (sExpr (mMeth 4 fAppend (mArgs [(mMeth 3 fPop (mArgs [(mCall fn_13 (mArgs [(mPk 0), (mCallB (ar1 fLen) (mArgs [(mPk 3)]))]))]))]))))
 (sSeq (sIf (mTB (mBin fEq (mCall fn_13 (mArgs [(mPk 0), (mC (.int 4))])) (mC (.int 0))))
 (sRet (mCallB (ar1 fTuple) (mArgs [(mPk 4)])))
 sNext)
 (sSeq (sPar 5 6 (mUn (rg1 fRgL) (mPk 2)) (mC (.int 0)))
 (sSeq (sAsg (mBin fAdd (mC (.int 1)) (mCall fn_13 (mArgs [(mPk 0), (mCallB (ar2 fMin2) (mArgs [(mPk 2), (mC (.int 8))]))]))) (gNm 7))
 (sSeq (sWhile (mTB (mBin fLt (mPk 6) (mPk 2)))
 (sSeq (sAsg (mCallB (ar2 fMin2) (mArgs [(mPk 7), (mBin fSub (mPk 2) (mPk 6))])) (gNm 8))
 (sSeq (sAsg (mSl (mPk 4) (mP (mVar 6)) (mP (mBin fAdd (mPk 6) (mPk 8)))) (gNm 9))
 (sSeq (sFor (mRg1 (mPk 8)) (gNm 10)
 (sAsg (mOp (mIf (mTB (mBin fLt (mBin fAdd (mPk 10) (mC (.int 1))) (mPk 8))) (mBin fIx (mPk 9) (mBin fAdd (mPk 10) (mC (.int 1)))) (mBin fIx (mPk 9) (mC (.int 0))))) (gSub 5 (mBin fIx (mPk 9) (mPk 10)))))
 (sSeq (sAsg (mBin fAdd (mPk 6) (mPk 8)) (gNm 6))
 (sIf (mTB (mBin fEq (mCall fn_13 (mArgs [(mPk 0), (mC (.int 3))])) (mC (.int 0))))
 (sAsg (mBin fAdd (mC (.int 1)) (mCall fn_13 (mArgs [(mPk 0), (mCallB (ar2 fMin2) (mArgs [(mPk 2), (mC (.int 6))]))]))) (gNm 7))
 sNext))))))
 (sRet (mCallB (ar1 fTuple) (mArgs [(mPk 5)]))))))))))
def fn_15 : Fn := bodyF 2 11 ms_15
/-- _law_behind -/
def ms_18 : MS :=
 (sRet (mCallB (ar1 fTuple) (mArgs [(mComp (mIt (mVar 0)) (.one 2) yesT (mBin fIx (mPk 1) (mPk 2)) [2])])))
def fn_18 : Fn := bodyF 2 3 ms_18
/-- _law_is_table -/
def ms_20 : MS :=
 (sSeq (sIf (mOr (mNot (mTru (mUn (fIsi isTup) (mPk 0)))) (mOr (mTB (mBin fNe (mCallB (ar1 fLen) (mArgs [(mPk 0)])) (mPk 1))) (mNot (mTru (mCallB (ar1 fAll) (mArgs [(mComp (mIt (mVar 0)) (.one 2) yesT (mAndV (mUn (fIsi isInt) (mPk 2)) (mBV (mNot (mTB (mUn (fIsi isBool) (mPk 2)))))) [2])]))))))
 (sRet (mC (.bool false)))
 sNext)
 (sRet (mBin fEq (mCallB (ar1 fSorted) (mArgs [(mPk 0)])) (mUn (rg1 fRgL) (mPk 1)))))
def fn_20 : Fn := bodyF 2 3 ms_20
/-- _law_bent -/
def ms_22 (fr : Fn) : MS :=
 (sSeq (sIf (mAnd (mTru (mUn (fIsi isTup) (mPk 1))) (mAnd (mTB (mBin fGt (mCallB (ar1 fLen) (mArgs [(mPk 1)])) (mC (.int 0)))) (mTB (mBin fGt (mCall fn_13 (mArgs [(mPk 0), (mC (.int 4))])) (mC (.int 0))))))
 (sSeq (sAsg (mCall fn_13 (mArgs [(mPk 0), (mCallB (ar1 fLen) (mArgs [(mPk 1)]))])) (gNm 2))
 (sRet (mBin fAdd (mBin fAdd (mSl (mPk 1) mNoP (mP (mVar 2))) (mTup (mArgs [(mCall fr (mArgs [(mPk 0), (mBin fIx (mPk 1) (mPk 2))]))]))) (mSl (mPk 1) (mP (mBin fAdd (mPk 2) (mC (.int 1)))) mNoP))))
 sNext)
 (sSeq (sIf (mTru (mUn (fIsi isTup) (mPk 1)))
 (sRet (mBin fIx (mList (mArgs [(mCallB (ar1 fList) (mArgs [(mPk 1)])), (mBin fAdd (mPk 1) (mTup (mArgs [(mC (.int 0))]))), (mSl (mPk 1) mNoP (mP (mUn fNeg (mC (.int 1))))), (mUn fRev (mPk 1)), (mC .none), (mTup (mArgs []))])) (mCall fn_13 (mArgs [(mPk 0), (mC (.int 6))]))))
 sNext)
 (sRet (mIf (mTru (mUn (fIsi isInt) (mPk 1))) (mBin fIx (mList (mArgs [(mC (.int 0)), (mC (.int 1)), (mBin fAdd (mPk 1) (mC (.int 1))), (mUn fNeg (mC (.int 1))), (mC .none), (mC (.str "0")), (mBin fEq (mPk 1) (mC (.int 0)))])) (mCall fn_13 (mArgs [(mPk 0), (mC (.int 7))]))) (mC (.int 0))))))
def fn_22 : Nat → Fn
  | 0 => fun _ => .no
  | n + 1 => bodyF 2 3 (ms_22 (fn_22 n))
/-- _law_right -/
def ms_23 : MS :=
 (sSeq (sIf (mOr (mNot (mTru (mUn (fIsi isTup) (mPk 1)))) (mOr (mTB (mBin fNe (mCallB (ar1 fLen) (mArgs [(mPk 1)])) (mC (.int 2)))) (mNot (mTru (mCallB (ar1 fAll) (mArgs [(mComp (mIt (mVar 1)) (.one 3) yesT (mCall fn_20 (mArgs [(mVar 3), (mCallB (ar1 fLen) (mArgs [(mPk 0)]))])) [3])]))))))
 (sRet (mC (.bool false)))
 sNext)
 (sSeq (sAsg (mUn (rg1 fRgT) (mCallB (ar1 fLen) (mArgs [(mPk 0)]))) (gNm 2))
 (sRet (mAndV (mBin fEq (mCall fn_18 (mArgs [(mBin fIx (mPk 1) (mC (.int 0))), (mBin fIx (mPk 1) (mC (.int 0)))])) (mPk 2)) (mAndV (mBin fEq (mCall fn_18 (mArgs [(mBin fIx (mPk 1) (mC (.int 1))), (mBin fIx (mPk 1) (mC (.int 1)))])) (mPk 2)) (mBin fEq (mCall fn_18 (mArgs [(mBin fIx (mPk 1) (mC (.int 0))), (mBin fIx (mPk 1) (mC (.int 1)))])) (mPk 0)))))))
def fn_23 : Fn := bodyF 2 4 ms_23
/-- law -/
def ms_24 : MS :=
 (sSeq (sAsg (mCall fn_12 (mArgs [(mVar 0)])) (gNm 1))
 (sSeq (sAsg (mBin fAdd (mC (.int 1)) (mCall fn_13 (mArgs [(mPk 1), (mC (.int 5))]))) (gNm 2))
 (sSeq (sPar 3 4 (mCall fn_15 (mArgs [(mPk 1), (mVar 2)])) (mCall fn_15 (mArgs [(mPk 1), (mVar 2)])))
 (sSeq (sAsg (mCall fn_7 (mArgs [(mVar 3)])) (gNm 5))
 (sSeq (sIf (mNot (mTru (mCall fn_23 (mArgs [(mVar 3), (mVar 5)]))))
 (sRet (mC (.bool false)))
 sNext)
 (sSeq (sAsg (mUn (rg1 fRgT) (mCallB (ar1 fLen) (mArgs [(mPk 3)]))) (gNm 6))
 (sSeq (sAsg (mList (mArgs [(mVar 5), (mTup (mArgs [(mBin fIx (mPk 5) (mC (.int 1))), (mBin fIx (mPk 5) (mC (.int 0)))])), (mTup (mArgs [(mVar 3), (mVar 6)])), (mTup (mArgs [(mVar 6), (mVar 3)])), (mBin fAdd (mPk 5) (mTup (mArgs [(mVar 6)]))), (mSl (mPk 5) mNoP (mP (mC (.int 1)))), (mCallB (ar1 fList) (mArgs [(mPk 5)])), (mC .none), (mTup (mArgs [])), (mTup (mArgs [(mVar 6), (mVar 6)])), (mTup (mArgs [(mBin fIx (mPk 5) (mC (.int 0))), (mCallB (ar1 fList) (mArgs [(mBin fIx (mPk 5) (mC (.int 1)))]))]))])) (gNm 7))
 (sSeq (sFor (mIt (mBin fAdd (mPk 7) (mList (mArgs [(mCall (fn_22 4) (mArgs [(mPk 1), (mVar 5)])), (mCall (fn_22 4) (mArgs [(mPk 1), (mVar 5)])), (mCall (fn_22 4) (mArgs [(mPk 1), (mTup (mArgs [(mVar 6), (mVar 3)]))])), (mTup (mArgs [(mVar 4), (mVar 4)]))])))) (gNm 8)
 (sIf (mNot (mTru (mCall fn_14 (mArgs [(mCall fn_8 (mArgs [(mVar 3), (mVar 8)])), (mCall fn_23 (mArgs [(mVar 3), (mVar 8)]))]))))
 (sRet (mC (.bool false)))
 sNext))
 (sSeq (sIf (mTB (mBin fEq (mPk 2) (mC (.int 5))))
 (sRet (mC (.bool true)))
 sNext)
 (sSeq (sPar 9 10 (mList (mArgs [(mVar 6)])) (mVar 3))
 (sSeq (sWhile (mTB (mBin fNe (mPk 10) (mPk 6)))
 (sSeq (sExpr (mMeth 9 fAppend (mArgs [(mVar 10)])))
 (sAsg (mCall fn_18 (mArgs [(mVar 10), (mVar 3)])) (gNm 10))))
 (sSeq (sFor (mIt (mList (mArgs [(mBin fIx (mPk 9) (mCall fn_13 (mArgs [(mPk 1), (mCallB (ar1 fLen) (mArgs [(mPk 9)]))]))), (mVar 4), (mVar 6), (mVar 3)]))) (gNm 11)
 (sSeq (sAsg (mIf (mTB (mBin fIn (mPk 11) (mPk 9))) (mRead fIndex (mPk 9) (mArgs [(mPk 11)])) (mC .none)) (gNm 12))
 (sSeq (sAsg (mCall fn_9 (mArgs [(mVar 3), (mVar 11)])) (gNm 13))
 (sIf (mOr (mTB (mBin fNe (mPk 13) (mPk 12))) (mAnd (mTB (mBin fIsNot (mPk 12) (mC .none))) (mOr (mNot (mTru (mUn (fIsi isInt) (mPk 13)))) (mTru (mUn (fIsi isBool) (mPk 13))))))
 (sRet (mC (.bool false)))
 sNext))))
 (sRet (mC (.bool true)))))))))))))))
def fn_24 : Fn := bodyF 1 14 ms_24
end
end VP
namespace VP
open PySem PySem.Spec PyProof.Rows L2 VL
set_option maxHeartbeats 4000000
theorem ok_1 {P : Program} {w : World} {K : PySem.W.Frag} {mg : Str → Option Value} {base : Heap} {A : Nat → Addr} {Fd : Nat → FuncData} (T : Txt K mg A Fd) : FnOk P w K mg base CX0 1 (A 1) (Fd 1) ["row"] (spV K fn_1) :=
  fn_ok (k := 0) T.f_1 sc_1 (by decide) fun cdv A' outer s H E C hr => by
    have hu1 := hu_of hr
    have hu64 := hr.units
    have hu65 : (A'.deeper (envOfC "rings_of" (defScope s_1) s.heap.objs.size (A 1) cdv)).units + 65 < cLine := by have := hr.un; omega
    exact
 (ss_cons (s_set (i := 1) sc_1.nd rfl (by first | exact Or.inl rfl | exact Or.inr rfl) e_newK)
 (ss_cons (s_set (i := 2) sc_1.nd rfl (by first | exact Or.inl rfl | exact Or.inr rfl) (e_lst a_nil))
 (ss_cons (s_for (i_rg1 (by rfl) T.b_range (e_callB b_len (by rfl) T.b_len (by decide +kernel) (a_cons (e_pk 0) a_nil))) (g_name sc_1.nd rfl (by first | exact Or.inl rfl | exact Or.inr rfl))
 (ss_one (s_if (t_dnotin hu1 (by rfl) (e_pk 3) (e_pk 1))
 (ss_cons (s_set (i := 4) sc_1.nd rfl (by first | exact Or.inl rfl | exact Or.inr rfl) (e_lst (a_cons (e_var 3) a_nil)))
 (ss_cons (s_dput hu1 (pv 1) (e_pk 3) e_bl)
 (ss_cons (s_while PassesOwn.never (t_cmp (d_ne hu64) (nomark _) (e_ix (e_pk 0) (e_ix (e_pk 4) (e_neg e_int))) (e_pk 3))
 (ss_cons (s_expr (e_meth PySem.F.plainAttrs_list PySem.F.slot_list_append PySem.F.type_list_append m_append (pv 4) (a_cons (e_ix (e_pk 0) (e_ix (e_pk 4) (e_neg e_int))) a_nil)))
 (ss_one (s_dput hu1 (pv 1) (e_ix (e_pk 4) (e_neg e_int)) e_bl))))
 (ss_one (s_expr (e_meth PySem.F.plainAttrs_list PySem.F.slot_list_append PySem.F.type_list_append m_append (pv 2) (a_cons (e_var 4) a_nil)))))))
 ss_nil)) (fun hi hg hb => ps_for PassesOwn.never rfl hi hg hb))
 (ss_one (s_ret (e_take 2))))))
theorem ok_2 {P : Program} {w : World} {K : PySem.W.Frag} {mg : Str → Option Value} {base : Heap} {A : Nat → Addr} {Fd : Nat → FuncData} (T : Txt K mg A Fd) : FnOk P w K mg base CX0 2 (A 2) (Fd 2) ["row"] (spV K fn_2) :=
  fn_ok (k := 1) T.f_2 sc_2 (by decide) fun cdv A' outer s H E C hr => by
    have hu1 := hu_of hr
    have hu64 := hr.units
    have hu65 : (A'.deeper (envOfC "by_length" (defScope s_2) s.heap.objs.size (A 2) cdv)).units + 65 < cLine := by have := hr.un; omega
    exact
 (ss_cons (s_set (i := 1) sc_2.nd rfl (by first | exact Or.inl rfl | exact Or.inr rfl) e_newK)
 (ss_cons (s_group (i_seq (e_call ((ok_1 T).mono (by omega)) hr (by rfl) T.m_1 T.f_1.kp T.p_1 (a_cons (e_var 0) a_nil))) (pg_name sc_2.nd rfl (by first | exact Or.inl rfl | exact Or.inr rfl)) (grp_body (pe_bm PySem.F.plainAttrs_list PySem.F.slot_list_append PySem.F.type_list_append mt_append (pe_dsetd (pv 1) (pe_callB call_len (by rfl) T.b_len (by decide +kernel) (pa_cons (pv 2) pa_nil)) (pe_lst pa_nil) ⟨rfl, rfl, rfl, rfl⟩) (pa_cons (pv 2) pa_nil))) (fun hi hg hb => ps_for PassesOwn.never rfl hi hg hb))
 (ss_one (s_ret (e_take 1)))))
theorem ok_3 {P : Program} {w : World} {K : PySem.W.Frag} {mg : Str → Option Value} {base : Heap} {A : Nat → Addr} {Fd : Nat → FuncData} (T : Txt K mg A Fd) : FnOk P w K mg base CX0 3 (A 3) (Fd 3) ["row"] (spV K fn_3) :=
  fn_ok (k := 2) T.f_3 sc_3 (by decide) fun cdv A' outer s H E C hr => by
    have hu1 := hu_of hr
    have hu64 := hr.units
    have hu65 : (A'.deeper (envOfC "ring_counts" (defScope s_3) s.heap.objs.size (A 3) cdv)).units + 65 < cLine := by have := hr.un; omega
    exact
 (ss_cons (s_set (i := 1) sc_3.nd rfl (by first | exact Or.inl rfl | exact Or.inr rfl) (e_call ((ok_2 T).mono (by omega)) hr (by rfl) T.m_2 T.f_2.kp T.p_2 (a_cons (e_var 0) a_nil)))
 (ss_one (s_ret (e_callTy b_tuple (by rfl) T.b_tuple (by decide +kernel) (a_cons (e_lc (own := [("length", 2)]) (ct := (.one 2)) rfl sc_3.nd (i_seq (e_callB (b_sorted rfl) (by rfl) T.b_sorted (by decide +kernel) (a_cons (e_pk 1) a_nil))) (blkOk_by (N := N_3) (sc := defScope s_3) (by decide +kernel)) (by decide) (fun _ _ _ _ _ => ct_one sc_3.nd rfl (by first | exact Or.inl rfl | exact Or.inr rfl)) (fun _ _ _ _ _ _ => ts_nil) (fun _ _ _ _ _ _ => (e_tup (a_cons (e_var 2) (a_cons (e_callB b_len (by rfl) T.b_len (by decide +kernel) (a_cons (e_dget hu1 (e_pk 1) (e_pk 2)) a_nil)) a_nil))))) a_nil)))))
theorem ok_4 {P : Program} {w : World} {K : PySem.W.Frag} {mg : Str → Option Value} {base : Heap} {A : Nat → Addr} {Fd : Nat → FuncData} (T : Txt K mg A Fd) : FnOk P w K mg base CX0 2 (A 4) (Fd 4) ["row", "k"] (spV K fn_4) :=
  fn_ok (k := 1) T.f_4 sc_4 (by decide) fun cdv A' outer s H E C hr => by
    have hu1 := hu_of hr
    have hu64 := hr.units
    have hu65 : (A'.deeper (envOfC "powered" (defScope s_4) s.heap.objs.size (A 4) cdv)).units + 65 < cLine := by have := hr.un; omega
    exact
 (ss_cons (s_set (i := 2) sc_4.nd rfl (by first | exact Or.inl rfl | exact Or.inr rfl) (e_listRg1 rfl (by rfl) T.b_list (by rfl) T.b_range (e_callB b_len (by rfl) T.b_len (by decide +kernel) (a_cons (e_pk 0) a_nil))))
 (ss_cons (s_for (i_seq (e_call ((ok_1 T).mono (by omega)) hr (by rfl) T.m_1 T.f_1.kp T.p_1 (a_cons (e_var 0) a_nil))) (g_name sc_4.nd rfl (by first | exact Or.inl rfl | exact Or.inr rfl))
 (ss_one (s_for (i_enum (by rfl) T.b_enumerate (e_var 3)) (g_tup rfl (gs_cons (g_name sc_4.nd rfl (by first | exact Or.inl rfl | exact Or.inr rfl)) (gs_cons (g_name sc_4.nd rfl (by first | exact Or.inl rfl | exact Or.inr rfl)) gs_nil)))
 (ss_one (s_asg (e_op (e_ix (e_pk 3) (e_bin d_mod (e_bin d_add (e_pk 4) (e_pk 1)) (e_callB b_len (by rfl) T.b_len (by decide +kernel) (a_cons (e_pk 3) a_nil))))) (g_sub (pv 2) (e_pk 5) (fun ho hi hs => pg_sub ho hi hs)))) (fun hi hg hb => ps_for PassesOwn.never rfl hi hg hb))) (fun hi hg hb => ps_for PassesOwn.never rfl hi hg hb))
 (ss_one (s_ret (e_callTy b_tuple (by rfl) T.b_tuple (by decide +kernel) (a_cons (e_pk 2) a_nil))))))
theorem ok_5 {P : Program} {w : World} {K : PySem.W.Frag} {mg : Str → Option Value} {base : Heap} {A : Nat → Addr} {Fd : Nat → FuncData} (T : Txt K mg A Fd) : FnOk P w K mg base CX0 1 (A 5) (Fd 5) ["first", "second"] (spV K fn_5) :=
  fn_ok (k := 0) T.f_5 sc_5 (by decide) fun cdv A' outer s H E C hr => by
    have hu1 := hu_of hr
    have hu64 := hr.units
    have hu65 : (A'.deeper (envOfC "behind_each_other" (defScope s_5) s.heap.objs.size (A 5) cdv)).units + 65 < cLine := by have := hr.un; omega
    exact
 (ss_one (s_ret (e_callTy b_tuple (by rfl) T.b_tuple (by decide +kernel) (a_cons (e_lc (own := [("number", 2)]) (ct := (.one 2)) rfl sc_5.nd (i_seq (e_var 0)) (blkOk_by (N := N_5) (sc := defScope s_5) (by decide +kernel)) (by decide) (fun _ _ _ _ _ => ct_one sc_5.nd rfl (by first | exact Or.inl rfl | exact Or.inr rfl)) (fun _ _ _ _ _ _ => ts_nil) (fun _ _ _ _ _ _ => (e_ix (e_pk 1) (e_pk 2)))) a_nil))))
theorem ok_6 {P : Program} {w : World} {K : PySem.W.Frag} {mg : Str → Option Value} {base : Heap} {A : Nat → Addr} {Fd : Nat → FuncData} (T : Txt K mg A Fd) : FnOk P w K mg base CX0 1 (A 6) (Fd 6) ["value", "size"] (spV K fn_6) :=
  fn_ok (k := 0) T.f_6 sc_6 (by decide) fun cdv A' outer s H E C hr => by
    have hu1 := hu_of hr
    have hu64 := hr.units
    have hu65 : (A'.deeper (envOfC "is_table" (defScope s_6) s.heap.objs.size (A 6) cdv)).units + 65 < cLine := by have := hr.un; omega
    exact
 (ss_cons (s_if (t_w (w_or (t_not (t_tru (e_isi k_tup (by rfl) T.b_isinstance (by rfl) T.b_tuple (by decide +kernel) (e_pk 0)))) (w_or1 (t_cmp (d_ne hu64) (nomark _) (e_callB b_len (by rfl) T.b_len (by decide +kernel) (a_cons (e_pk 0) a_nil)) (e_pk 1)))))
 (ss_one (s_ret e_bl))
 ss_nil)
 (ss_cons (s_if (t_not (t_tru (e_callB (b_all rfl) (by rfl) T.b_all (by decide +kernel) (a_cons (e_lc (own := [("number", 2)]) (ct := (.one 2)) rfl sc_6.nd (i_seq (e_var 0)) (blkOk_by (N := N_6) (sc := defScope s_6) (by decide +kernel)) (by decide) (fun _ _ _ _ _ => ct_one sc_6.nd rfl (by first | exact Or.inl rfl | exact Or.inr rfl)) (fun _ _ _ _ _ _ => ts_nil) (fun _ _ _ _ _ _ => (e_and (e_isi k_int (by rfl) T.b_isinstance (by rfl) T.b_int (by decide +kernel) (e_pk 2)) (e_one (e_not (e_isi k_bool (by rfl) T.b_isinstance (by rfl) T.b_bool (by decide +kernel) (e_pk 2))))))) a_nil))))
 (ss_one (s_ret e_bl))
 ss_nil)
 (ss_one (s_ret (e_cmp (d_eq hu64) (nomark _) (e_callB (b_sorted rfl) (by rfl) T.b_sorted (by decide +kernel) (a_cons (e_pk 0) a_nil)) (e_listRg1 rfl (by rfl) T.b_list (by rfl) T.b_range (e_pk 1)))))))
theorem ok_7 {P : Program} {w : World} {K : PySem.W.Frag} {mg : Str → Option Value} {base : Heap} {A : Nat → Addr} {Fd : Nat → FuncData} (T : Txt K mg A Fd) : FnOk P w K mg base CX0 2 (A 7) (Fd 7) ["row"] (spV K fn_7) :=
  fn_ok (k := 1) T.f_7 sc_7 (by decide) fun cdv A' outer s H E C hr => by
    have hu1 := hu_of hr
    have hu64 := hr.units
    have hu65 : (A'.deeper (envOfC "two_turns" (defScope s_7) s.heap.objs.size (A 7) cdv)).units + 65 < cLine := by have := hr.un; omega
    exact
 (ss_cons (s_par (i := 1) (j := 2) rfl sc_7.nd rfl rfl (by decide) rfl rfl (e_listRg1 rfl (by rfl) T.b_list (by rfl) T.b_range (e_callB b_len (by rfl) T.b_len (by decide +kernel) (a_cons (e_pk 0) a_nil))) (fun _ => (e_listRg1 rfl (by rfl) T.b_list (by rfl) T.b_range (e_callB b_len (by rfl) T.b_len (by decide +kernel) (a_cons (e_pk 0) a_nil)))) (by rfl))
 (ss_cons (s_for (i_seq (e_call ((ok_1 T).mono (by omega)) hr (by rfl) T.m_1 T.f_1.kp T.p_1 (a_cons (e_var 0) a_nil))) (g_name sc_7.nd rfl (by first | exact Or.inl rfl | exact Or.inr rfl))
 (ss_one (s_for (i_enum (by rfl) T.b_enumerate (e_var 3)) (g_tup rfl (gs_cons (g_name sc_7.nd rfl (by first | exact Or.inl rfl | exact Or.inr rfl)) (gs_cons (g_name sc_7.nd rfl (by first | exact Or.inl rfl | exact Or.inr rfl)) gs_nil)))
 (ss_cons (s_asg (e_op (e_ix (e_pk 3) (e_neg (e_pk 4)))) (g_sub (pv 1) (e_pk 5) (fun ho hi hs => pg_sub ho hi hs)))
 (ss_one (s_asg (e_op (e_ix (e_pk 3) (e_bin d_mod (e_bin d_sub e_int (e_pk 4)) (e_callB b_len (by rfl) T.b_len (by decide +kernel) (a_cons (e_pk 3) a_nil))))) (g_sub (pv 2) (e_pk 5) (fun ho hi hs => pg_sub ho hi hs))))) (fun hi hg hb => ps_for PassesOwn.never rfl hi hg hb))) (fun hi hg hb => ps_for PassesOwn.never rfl hi hg hb))
 (ss_one (s_ret (e_tup (a_cons (e_callTy b_tuple (by rfl) T.b_tuple (by decide +kernel) (a_cons (e_pk 1) a_nil)) (a_cons (e_callTy b_tuple (by rfl) T.b_tuple (by decide +kernel) (a_cons (e_pk 2) a_nil)) a_nil)))))))
theorem ok_8 {P : Program} {w : World} {K : PySem.W.Frag} {mg : Str → Option Value} {base : Heap} {A : Nat → Addr} {Fd : Nat → FuncData} (T : Txt K mg A Fd) : FnOk P w K mg base CX0 2 (A 8) (Fd 8) ["row", "value"] (spV K fn_8) :=
  fn_ok (k := 1) T.f_8 sc_8 (by decide) fun cdv A' outer s H E C hr => by
    have hu1 := hu_of hr
    have hu64 := hr.units
    have hu65 : (A'.deeper (envOfC "takes_turns" (defScope s_8) s.heap.objs.size (A 8) cdv)).units + 65 < cLine := by have := hr.un; omega
    exact
 (ss_cons (s_if (t_w (w_or (t_not (t_tru (e_isi k_tup (by rfl) T.b_isinstance (by rfl) T.b_tuple (by decide +kernel) (e_pk 1)))) (w_or (t_cmp (d_ne hu64) (nomark _) (e_callB b_len (by rfl) T.b_len (by decide +kernel) (a_cons (e_pk 1) a_nil)) e_int) (w_or1 (t_not (t_tru (e_callB (b_all rfl) (by rfl) T.b_all (by decide +kernel) (a_cons (e_lc (own := [("part", 5)]) (ct := (.one 5)) rfl sc_8.nd (i_seq (e_var 1)) (blkOk_by (N := N_8) (sc := defScope s_8) (by decide +kernel)) (by decide) (fun _ _ _ _ _ => ct_one sc_8.nd rfl (by first | exact Or.inl rfl | exact Or.inr rfl)) (fun _ _ _ _ _ _ => ts_nil) (fun _ _ _ _ _ _ => (e_call ((ok_6 T).mono (by omega)) hr (by rfl) T.m_6 T.f_6.kp T.p_6 (a_cons (e_var 5) (a_cons (e_callB b_len (by rfl) T.b_len (by decide +kernel) (a_cons (e_pk 0) a_nil)) a_nil))))) a_nil))))))))
 (ss_one (s_ret e_bl))
 ss_nil)
 (ss_cons (s_asg (e_op (e_var 1)) (g_tup rfl (gs_cons (g_name sc_8.nd rfl (by first | exact Or.inl rfl | exact Or.inr rfl)) (gs_cons (g_name sc_8.nd rfl (by first | exact Or.inl rfl | exact Or.inr rfl)) gs_nil))))
 (ss_cons (s_setLc (i := 4) (own := [("part", 5)]) (ct := (.one 5)) rfl sc_8.nd rfl rfl (sw_true rfl rfl rfl (by decide +kernel)) (i_seq (e_var 1)) (blkOk_by (N := N_8) (sc := defScope s_8) (by decide +kernel)) (by decide) (fun _ _ _ _ _ => ct_one sc_8.nd rfl (by first | exact Or.inl rfl | exact Or.inr rfl)) (fun _ _ _ _ _ _ => ts_nil) (fun _ _ _ _ _ _ => (e_cmp (d_eq hu64) (nomark _) (e_call ((ok_5 T).mono (by omega)) hr (by rfl) T.m_5 T.f_5.kp T.p_5 (a_cons (e_var 5) (a_cons (e_var 5) a_nil))) (e_tupRg1 rfl (by rfl) T.b_tuple (by rfl) T.b_range (e_callB b_len (by rfl) T.b_len (by decide +kernel) (a_cons (e_pk 0) a_nil))))))
 (ss_one (s_ret (e_and (e_callB (b_all rfl) (by rfl) T.b_all (by decide +kernel) (a_cons (e_pk 4) a_nil)) (e_one (e_cmp (d_eq hu64) (nomark _) (e_call ((ok_5 T).mono (by omega)) hr (by rfl) T.m_5 T.f_5.kp T.p_5 (a_cons (e_var 2) (a_cons (e_var 3) a_nil))) (e_callTy b_tuple (by rfl) T.b_tuple (by decide +kernel) (a_cons (e_pk 0) a_nil))))))))))
theorem ok_10 {P : Program} {w : World} {K : PySem.W.Frag} {mg : Str → Option Value} {base : Heap} {A : Nat → Addr} {Fd : Nat → FuncData} (T : Txt K mg A Fd) : FnOk P w K mg base CX0 1 (A 10) (Fd 10) ["x", "y"] (spV K fn_10) :=
  fn_ok (k := 0) T.f_10 sc_10 (by decide) fun cdv A' outer s H E C hr => by
    have hu1 := hu_of hr
    have hu64 := hr.units
    have hu65 : (A'.deeper (envOfC "divisor_of" (defScope s_10) s.heap.objs.size (A 10) cdv)).units + 65 < cLine := by have := hr.un; omega
    exact
 (ss_cons (s_while PassesOwn.never (t_cmp d_gt (nomark _) (e_pk 1) e_int)
 (ss_one (s_par (i := 0) (j := 1) rfl sc_10.nd rfl rfl (by decide) rfl rfl (e_var 1) (fun _ => (e_bin d_mod (e_pk 0) (e_pk 1))) (by rfl))))
 (ss_one (s_ret (e_take 0))))
theorem ok_9 {P : Program} {w : World} {K : PySem.W.Frag} {mg : Str → Option Value} {base : Heap} {A : Nat → Addr} {Fd : Nat → FuncData} (T : Txt K mg A Fd) : FnOk P w K mg base CX0 4 (A 9) (Fd 9) ["row", "other"] (spV K fn_9) :=
  fn_ok (k := 3) T.f_9 sc_9 (by decide) fun cdv A' outer s H E C hr => by
    have hu1 := hu_of hr
    have hu64 := hr.units
    have hu65 : (A'.deeper (envOfC "least_power" (defScope s_9) s.heap.objs.size (A 9) cdv)).units + 65 < cLine := by have := hr.un; omega
    exact
 (ss_cons (s_set (i := 2) sc_9.nd rfl (by first | exact Or.inl rfl | exact Or.inr rfl) e_int)
 (ss_cons (s_for (i_seq (e_call ((ok_3 T).mono (by omega)) hr (by rfl) T.m_3 T.f_3.kp T.p_3 (a_cons (e_var 0) a_nil))) (g_tup rfl (gs_cons (g_name sc_9.nd rfl (by first | exact Or.inl rfl | exact Or.inr rfl)) (gs_cons (g_name sc_9.nd rfl (by first | exact Or.inl rfl | exact Or.inr rfl)) gs_nil)))
 (ss_one (s_aug (i := 2) sc_9.nd rfl (by first | exact Or.inl rfl | exact Or.inr rfl) d_imul (e_bin d_fdiv (e_pk 3) (e_call ((ok_10 T).mono (by omega)) hr (by rfl) T.m_10 T.f_10.kp T.p_10 (a_cons (e_var 2) (a_cons (e_var 3) a_nil)))))) (fun hi hg hb => ps_for PassesOwn.never rfl hi hg hb))
 (ss_cons (s_for (i_rg1 (by rfl) T.b_range (e_callB (b_min2 rfl) (by rfl) T.b_min (by decide +kernel) (a_cons (e_pk 2) (a_cons e_int a_nil)))) (g_name sc_9.nd rfl (by first | exact Or.inl rfl | exact Or.inr rfl))
 (ss_one (s_if (t_cmp (d_eq hu64) (nomark _) (e_call ((ok_4 T).mono (by omega)) hr (by rfl) T.m_4 T.f_4.kp T.p_4 (a_cons (e_var 0) (a_cons (e_var 5) a_nil))) (e_callTy b_tuple (by rfl) T.b_tuple (by decide +kernel) (a_cons (e_pk 1) a_nil)))
 (ss_one (s_ret (e_take 5)))
 ss_nil)) (fun hi hg hb => ps_for PassesOwn.never rfl hi hg hb))
 (ss_one (s_ret e_non)))))
theorem ok_12 {P : Program} {w : World} {K : PySem.W.Frag} {mg : Str → Option Value} {base : Heap} {A : Nat → Addr} {Fd : Nat → FuncData} (T : Txt K mg A Fd) : FnOk P w K mg base CX0 1 (A 12) (Fd 12) ["script"] (spV K fn_12) :=
  fn_ok (k := 0) T.f_12 sc_12 (by decide) fun cdv A' outer s H E C hr => by
    have hu1 := hu_of hr
    have hu64 := hr.units
    have hu65 : (A'.deeper (envOfC "_law_draw" (defScope s_12) s.heap.objs.size (A 12) cdv)).units + 65 < cLine := by have := hr.un; omega
    exact
 (ss_cons (s_set (i := 1) sc_12.nd rfl (by first | exact Or.inl rfl | exact Or.inr rfl) e_int)
 (ss_cons (s_for (i_seq (e_var 0)) (g_name sc_12.nd rfl (by first | exact Or.inl rfl | exact Or.inr rfl))
 (ss_one (s_set (i := 1) sc_12.nd rfl (by first | exact Or.inl rfl | exact Or.inr rfl) (e_bin d_mod (e_callTy b_int (by rfl) T.b_int (by decide +kernel) (a_cons (e_bin d_add (e_bin d_add (e_bin d_mul (e_pk 1) e_int) (e_bin d_mod (e_callB b_abs (by rfl) T.b_abs (by decide +kernel) (a_cons (e_callTy b_int (by rfl) T.b_int (by decide +kernel) (a_cons (e_pk 2) a_nil)) a_nil)) e_int)) e_int) a_nil)) e_int))) (fun hi hg hb => ps_for PassesOwn.never rfl hi hg hb))
 (ss_one (s_ret (e_lst (a_cons (e_lc (own := [("cell", 2)]) (ct := (.one 2)) rfl sc_12.nd (i_seq (e_var 0)) (blkOk_by (N := N_12) (sc := defScope s_12) (by decide +kernel)) (by decide) (fun _ _ _ _ _ => ct_one sc_12.nd rfl (by first | exact Or.inl rfl | exact Or.inr rfl)) (fun _ _ _ _ _ _ => ts_nil) (fun _ _ _ _ _ _ => (e_callB b_abs (by rfl) T.b_abs (by decide +kernel) (a_cons (e_callTy b_int (by rfl) T.b_int (by decide +kernel) (a_cons (e_pk 2) a_nil)) a_nil)))) (a_cons (e_neg e_int) (a_cons e_int (a_cons (e_var 1) a_nil)))))))))
theorem ok_13 {P : Program} {w : World} {K : PySem.W.Frag} {mg : Str → Option Value} {base : Heap} {A : Nat → Addr} {Fd : Nat → FuncData} (T : Txt K mg A Fd) : FnOk P w K mg base CX0 1 (A 13) (Fd 13) ["draw", "many"] (spV K fn_13) :=
  fn_ok (k := 0) T.f_13 sc_13 (by decide) fun cdv A' outer s H E C hr => by
    have hu1 := hu_of hr
    have hu64 := hr.units
    have hu65 : (A'.deeper (envOfC "_law_take" (defScope s_13) s.heap.objs.size (A 13) cdv)).units + 65 < cLine := by have := hr.un; omega
    exact
 (ss_cons (s_if (t_cmp (d_eq hu64) (nomark _) (e_ix (e_pk 0) e_int) e_int)
 (ss_cons (s_asg (e_op (e_bin d_add (e_ix (e_pk 0) e_int) e_int)) (g_sub (pv 0) e_int (fun ho hi hs => pg_sub ho hi hs)))
 (ss_cons (s_if (t_cmp d_lt (nomark _) (e_ix (e_pk 0) e_int) (e_callB b_len (by rfl) T.b_len (by decide +kernel) (a_cons (e_ix (e_pk 0) e_int) a_nil)))
 (ss_one (s_asg (e_op (e_ix (e_ix (e_pk 0) e_int) (e_ix (e_pk 0) e_int))) (g_sub (pv 0) e_int (fun ho hi hs => pg_sub ho hi hs))))
 ss_nil)
 (ss_one (s_if (t_cmp (d_eq hu64) (nomark _) (e_ix (e_pk 0) e_int) e_int)
 (ss_cons (s_asg (e_op (e_bin d_mod (e_callTy b_int (by rfl) T.b_int (by decide +kernel) (a_cons (e_bin d_add (e_bin d_mul (e_ix (e_pk 0) e_int) e_int) e_int) a_nil)) e_int)) (g_sub (pv 0) e_int (fun ho hi hs => pg_sub ho hi hs)))
 (ss_one (s_asg (e_op (e_ix (e_pk 0) e_int)) (g_sub (pv 0) e_int (fun ho hi hs => pg_sub ho hi hs)))))
 ss_nil))))
 ss_nil)
 (ss_cons (s_set (i := 2) sc_13.nd rfl (by first | exact Or.inl rfl | exact Or.inr rfl) (e_bin d_mod (e_callTy b_int (by rfl) T.b_int (by decide +kernel) (a_cons (e_ix (e_pk 0) e_int) a_nil)) (e_pk 1)))
 (ss_cons (s_asg (e_op (e_bin d_fdiv (e_ix (e_pk 0) e_int) (e_pk 1))) (g_sub (pv 0) e_int (fun ho hi hs => pg_sub ho hi hs)))
 (ss_one (s_ret (e_take 2))))))
theorem ok_14 {P : Program} {w : World} {K : PySem.W.Frag} {mg : Str → Option Value} {base : Heap} {A : Nat → Addr} {Fd : Nat → FuncData} (T : Txt K mg A Fd) : FnOk P w K mg base CX0 1 (A 14) (Fd 14) ["value", "due"] (spV K fn_14) :=
  fn_ok (k := 0) T.f_14 sc_14 (by decide) fun cdv A' outer s H E C hr => by
    have hu1 := hu_of hr
    have hu64 := hr.units
    have hu65 : (A'.deeper (envOfC "_law_says" (defScope s_14) s.heap.objs.size (A 14) cdv)).units + 65 < cLine := by have := hr.un; omega
    exact
 (ss_one (s_ret (e_and (e_isi k_bool (by rfl) T.b_isinstance (by rfl) T.b_bool (by decide +kernel) (e_pk 0)) (e_one (e_cmp (d_eq hu64) (nomark _) (e_pk 0) (e_pk 1))))))
theorem ok_15 {P : Program} {w : World} {K : PySem.W.Frag} {mg : Str → Option Value} {base : Heap} {A : Nat → Addr} {Fd : Nat → FuncData} (T : Txt K mg A Fd) : FnOk P w K mg base CX0 2 (A 15) (Fd 15) ["draw", "wires"] (spV K fn_15) :=
  fn_ok (k := 1) T.f_15 sc_15 (by decide) fun cdv A' outer s H E C hr => by
    have hu1 := hu_of hr
    have hu64 := hr.units
    have hu65 : (A'.deeper (envOfC "_law_perm" (defScope s_15) s.heap.objs.size (A 15) cdv)).units + 65 < cLine := by have := hr.un; omega
    exact
 (ss_cons (s_set (i := 2) sc_15.nd rfl (by first | exact Or.inl rfl | exact Or.inr rfl) (e_bin d_shl e_int (e_pk 1)))
 (ss_cons (s_par (i := 3) (j := 4) rfl sc_15.nd rfl rfl (by decide) rfl rfl (e_listRg1 rfl (by rfl) T.b_list (by rfl) T.b_range (e_pk 2)) (fun _ => (e_lst a_nil)) (by rfl))
 (ss_cons (s_while PassesOwn.never (t_cmp (d_ne hu64) (nomark _) (e_pk 3) (e_lst a_nil))
 (ss_one (s_expr (e_meth PySem.F.plainAttrs_list PySem.F.slot_list_append PySem.F.type_list_append m_append (pv 4) (a_cons (e_meth PySem.F.plainAttrs_list PySem.F.slot_list_pop PySem.F.type_list_pop m_pop (pv 3) (a_cons (e_call ((ok_13 T).mono (by omega)) hr (by rfl) T.m_13 T.f_13.kp T.p_13 (a_cons (e_pk 0) (a_cons (e_callB b_len (by rfl) T.b_len (by decide +kernel) (a_cons (e_pk 3) a_nil)) a_nil))) a_nil)) a_nil)))))
 (ss_cons (s_if (t_cmp (d_eq hu64) (nomark _) (e_call ((ok_13 T).mono (by omega)) hr (by rfl) T.m_13 T.f_13.kp T.p_13 (a_cons (e_pk 0) (a_cons e_int a_nil))) e_int)
 (ss_one (s_ret (e_callTy b_tuple (by rfl) T.b_tuple (by decide +kernel) (a_cons (e_pk 4) a_nil))))
 ss_nil)
 (ss_cons (s_par (i := 5) (j := 6) rfl sc_15.nd rfl rfl (by decide) rfl rfl (e_listRg1 rfl (by rfl) T.b_list (by rfl) T.b_range (e_pk 2)) (fun _ => e_int) (by rfl))
 (ss_cons (s_set (i := 7) sc_15.nd rfl (by first | exact Or.inl rfl | exact Or.inr rfl) (e_bin d_add e_int (e_call ((ok_13 T).mono (by omega)) hr (by rfl) T.m_13 T.f_13.kp T.p_13 (a_cons (e_pk 0) (a_cons (e_callB (b_min2 rfl) (by rfl) T.b_min (by decide +kernel) (a_cons (e_pk 2) (a_cons e_int a_nil))) a_nil)))))
 (ss_cons (s_while PassesOwn.never (t_cmp d_lt (nomark _) (e_pk 6) (e_pk 2))
 (ss_cons (s_set (i := 8) sc_15.nd rfl (by first | exact Or.inl rfl | exact Or.inr rfl) (e_callB (b_min2 rfl) (by rfl) T.b_min (by decide +kernel) (a_cons (e_pk 7) (a_cons (e_bin d_sub (e_pk 2) (e_pk 6)) a_nil))))
 (ss_cons (s_set (i := 9) sc_15.nd rfl (by first | exact Or.inl rfl | exact Or.inr rfl) (e_sl (e_pk 4) (o_p (e_var 6)) (o_p (e_bin d_add (e_pk 6) (e_pk 8)))))
 (ss_cons (s_for (i_rg1 (by rfl) T.b_range (e_pk 8)) (g_name sc_15.nd rfl (by first | exact Or.inl rfl | exact Or.inr rfl))
 (ss_one (s_asg (e_op (e_if (t_cmp d_lt (nomark _) (e_bin d_add (e_pk 10) e_int) (e_pk 8)) (e_ix (e_pk 9) (e_bin d_add (e_pk 10) e_int)) (e_ix (e_pk 9) e_int))) (g_sub (pv 5) (e_ix (e_pk 9) (e_pk 10)) (fun ho hi hs => pg_sub ho hi hs)))) (fun hi hg hb => ps_for PassesOwn.never rfl hi hg hb))
 (ss_cons (s_set (i := 6) sc_15.nd rfl (by first | exact Or.inl rfl | exact Or.inr rfl) (e_bin d_add (e_pk 6) (e_pk 8)))
 (ss_one (s_if (t_cmp (d_eq hu64) (nomark _) (e_call ((ok_13 T).mono (by omega)) hr (by rfl) T.m_13 T.f_13.kp T.p_13 (a_cons (e_pk 0) (a_cons e_int a_nil))) e_int)
 (ss_one (s_set (i := 7) sc_15.nd rfl (by first | exact Or.inl rfl | exact Or.inr rfl) (e_bin d_add e_int (e_call ((ok_13 T).mono (by omega)) hr (by rfl) T.m_13 T.f_13.kp T.p_13 (a_cons (e_pk 0) (a_cons (e_callB (b_min2 rfl) (by rfl) T.b_min (by decide +kernel) (a_cons (e_pk 2) (a_cons e_int a_nil))) a_nil))))))
 ss_nil)))))))
 (ss_one (s_ret (e_callTy b_tuple (by rfl) T.b_tuple (by decide +kernel) (a_cons (e_pk 5) a_nil)))))))))))
theorem ok_18 {P : Program} {w : World} {K : PySem.W.Frag} {mg : Str → Option Value} {base : Heap} {A : Nat → Addr} {Fd : Nat → FuncData} (T : Txt K mg A Fd) : FnOk P w K mg base CX0 1 (A 18) (Fd 18) ["first", "second"] (spV K fn_18) :=
  fn_ok (k := 0) T.f_18 sc_18 (by decide) fun cdv A' outer s H E C hr => by
    have hu1 := hu_of hr
    have hu64 := hr.units
    have hu65 : (A'.deeper (envOfC "_law_behind" (defScope s_18) s.heap.objs.size (A 18) cdv)).units + 65 < cLine := by have := hr.un; omega
    exact
 (ss_one (s_ret (e_callTy b_tuple (by rfl) T.b_tuple (by decide +kernel) (a_cons (e_lc (own := [("number", 2)]) (ct := (.one 2)) rfl sc_18.nd (i_seq (e_var 0)) (blkOk_by (N := N_18) (sc := defScope s_18) (by decide +kernel)) (by decide) (fun _ _ _ _ _ => ct_one sc_18.nd rfl (by first | exact Or.inl rfl | exact Or.inr rfl)) (fun _ _ _ _ _ _ => ts_nil) (fun _ _ _ _ _ _ => (e_ix (e_pk 1) (e_pk 2)))) a_nil))))
theorem ok_20 {P : Program} {w : World} {K : PySem.W.Frag} {mg : Str → Option Value} {base : Heap} {A : Nat → Addr} {Fd : Nat → FuncData} (T : Txt K mg A Fd) : FnOk P w K mg base CX0 1 (A 20) (Fd 20) ["value", "size"] (spV K fn_20) :=
  fn_ok (k := 0) T.f_20 sc_20 (by decide) fun cdv A' outer s H E C hr => by
    have hu1 := hu_of hr
    have hu64 := hr.units
    have hu65 : (A'.deeper (envOfC "_law_is_table" (defScope s_20) s.heap.objs.size (A 20) cdv)).units + 65 < cLine := by have := hr.un; omega
    exact
 (ss_cons (s_if (t_w (w_or (t_not (t_tru (e_isi k_tup (by rfl) T.b_isinstance (by rfl) T.b_tuple (by decide +kernel) (e_pk 0)))) (w_or (t_cmp (d_ne hu64) (nomark _) (e_callB b_len (by rfl) T.b_len (by decide +kernel) (a_cons (e_pk 0) a_nil)) (e_pk 1)) (w_or1 (t_not (t_tru (e_callB (b_all rfl) (by rfl) T.b_all (by decide +kernel) (a_cons (e_lc (own := [("item", 2)]) (ct := (.one 2)) rfl sc_20.nd (i_seq (e_var 0)) (blkOk_by (N := N_20) (sc := defScope s_20) (by decide +kernel)) (by decide) (fun _ _ _ _ _ => ct_one sc_20.nd rfl (by first | exact Or.inl rfl | exact Or.inr rfl)) (fun _ _ _ _ _ _ => ts_nil) (fun _ _ _ _ _ _ => (e_and (e_isi k_int (by rfl) T.b_isinstance (by rfl) T.b_int (by decide +kernel) (e_pk 2)) (e_one (e_not (e_isi k_bool (by rfl) T.b_isinstance (by rfl) T.b_bool (by decide +kernel) (e_pk 2))))))) a_nil))))))))
 (ss_one (s_ret e_bl))
 ss_nil)
 (ss_one (s_ret (e_cmp (d_eq hu64) (nomark _) (e_callB (b_sorted rfl) (by rfl) T.b_sorted (by decide +kernel) (a_cons (e_pk 0) a_nil)) (e_listRg1 rfl (by rfl) T.b_list (by rfl) T.b_range (e_pk 1))))))
theorem ok_22 {P : Program} {w : World} {K : PySem.W.Frag} {mg : Str → Option Value} {base : Heap} {A : Nat → Addr} {Fd : Nat → FuncData} (T : Txt K mg A Fd) : ∀ n : Nat, FnOk P w K mg base CX0 (1 + n + 1) (A 22) (Fd 22) ["draw", "data"] (spV K (fn_22 n))
  | 0 => fn_no T.f_22 sc_22
  | n + 1 => fn_ok (k := 1 + n + 1) T.f_22 sc_22 (by decide) fun cdv A' outer s H E C hr => by
    have Gr := ok_22 (P := P) (w := w) (base := base) T n
    have hu1 := hu_of hr
    have hu64 := hr.units
    have hu65 : (A'.deeper (envOfC "_law_bent" (defScope s_22) s.heap.objs.size (A 22) cdv)).units + 65 < cLine := by have := hr.un; omega
    exact
 (ss_cons (s_if (t_w (w_and (t_tru (e_isi k_tup (by rfl) T.b_isinstance (by rfl) T.b_tuple (by decide +kernel) (e_pk 1))) (w_and (t_cmp d_gt (nomark _) (e_callB b_len (by rfl) T.b_len (by decide +kernel) (a_cons (e_pk 1) a_nil)) e_int) (w_and1 (t_cmp d_gt (nomark _) (e_call ((ok_13 T).mono (by omega)) hr (by rfl) T.m_13 T.f_13.kp T.p_13 (a_cons (e_pk 0) (a_cons e_int a_nil))) e_int)))))
 (ss_cons (s_set (i := 2) sc_22.nd rfl (by first | exact Or.inl rfl | exact Or.inr rfl) (e_call ((ok_13 T).mono (by omega)) hr (by rfl) T.m_13 T.f_13.kp T.p_13 (a_cons (e_pk 0) (a_cons (e_callB b_len (by rfl) T.b_len (by decide +kernel) (a_cons (e_pk 1) a_nil)) a_nil))))
 (ss_one (s_ret (e_bin d_add (e_bin d_add (e_sl (e_pk 1) o_no (o_p (e_var 2))) (e_tup (a_cons (e_call (Gr.mono (by omega)) hr (by rfl) T.m_22 T.f_22.kp T.p_22 (a_cons (e_pk 0) (a_cons (e_ix (e_pk 1) (e_pk 2)) a_nil))) a_nil))) (e_sl (e_pk 1) (o_p (e_bin d_add (e_pk 2) e_int)) o_no)))))
 ss_nil)
 (ss_cons (s_if (t_tru (e_isi k_tup (by rfl) T.b_isinstance (by rfl) T.b_tuple (by decide +kernel) (e_pk 1)))
 (ss_one (s_ret (e_ix (e_lst (a_cons (e_callTy b_list (by rfl) T.b_list (by decide +kernel) (a_cons (e_pk 1) a_nil)) (a_cons (e_bin d_add (e_pk 1) (e_tup (a_cons e_int a_nil))) (a_cons (e_sl (e_pk 1) o_no (o_p (e_neg e_int))) (a_cons (e_rev (e_pk 1)) (a_cons e_non (a_cons (e_tup a_nil) a_nil))))))) (e_call ((ok_13 T).mono (by omega)) hr (by rfl) T.m_13 T.f_13.kp T.p_13 (a_cons (e_pk 0) (a_cons e_int a_nil))))))
 ss_nil)
 (ss_one (s_ret (e_if (t_tru (e_isi k_int (by rfl) T.b_isinstance (by rfl) T.b_int (by decide +kernel) (e_pk 1))) (e_ix (e_lst (a_cons e_int (a_cons e_int (a_cons (e_bin d_add (e_pk 1) e_int) (a_cons (e_neg e_int) (a_cons e_non (a_cons e_str (a_cons (e_cmp (d_eq hu64) (nomark _) (e_pk 1) e_int) a_nil)))))))) (e_call ((ok_13 T).mono (by omega)) hr (by rfl) T.m_13 T.f_13.kp T.p_13 (a_cons (e_pk 0) (a_cons e_int a_nil)))) e_int)))))
theorem ok_23 {P : Program} {w : World} {K : PySem.W.Frag} {mg : Str → Option Value} {base : Heap} {A : Nat → Addr} {Fd : Nat → FuncData} (T : Txt K mg A Fd) : FnOk P w K mg base CX0 2 (A 23) (Fd 23) ["row", "value"] (spV K fn_23) :=
  fn_ok (k := 1) T.f_23 sc_23 (by decide) fun cdv A' outer s H E C hr => by
    have hu1 := hu_of hr
    have hu64 := hr.units
    have hu65 : (A'.deeper (envOfC "_law_right" (defScope s_23) s.heap.objs.size (A 23) cdv)).units + 65 < cLine := by have := hr.un; omega
    exact
 (ss_cons (s_if (t_w (w_or (t_not (t_tru (e_isi k_tup (by rfl) T.b_isinstance (by rfl) T.b_tuple (by decide +kernel) (e_pk 1)))) (w_or (t_cmp (d_ne hu64) (nomark _) (e_callB b_len (by rfl) T.b_len (by decide +kernel) (a_cons (e_pk 1) a_nil)) e_int) (w_or1 (t_not (t_tru (e_callB (b_all rfl) (by rfl) T.b_all (by decide +kernel) (a_cons (e_lc (own := [("part", 3)]) (ct := (.one 3)) rfl sc_23.nd (i_seq (e_var 1)) (blkOk_by (N := N_23) (sc := defScope s_23) (by decide +kernel)) (by decide) (fun _ _ _ _ _ => ct_one sc_23.nd rfl (by first | exact Or.inl rfl | exact Or.inr rfl)) (fun _ _ _ _ _ _ => ts_nil) (fun _ _ _ _ _ _ => (e_call ((ok_20 T).mono (by omega)) hr (by rfl) T.m_20 T.f_20.kp T.p_20 (a_cons (e_var 3) (a_cons (e_callB b_len (by rfl) T.b_len (by decide +kernel) (a_cons (e_pk 0) a_nil)) a_nil))))) a_nil))))))))
 (ss_one (s_ret e_bl))
 ss_nil)
 (ss_cons (s_set (i := 2) sc_23.nd rfl (by first | exact Or.inl rfl | exact Or.inr rfl) (e_tupRg1 rfl (by rfl) T.b_tuple (by rfl) T.b_range (e_callB b_len (by rfl) T.b_len (by decide +kernel) (a_cons (e_pk 0) a_nil))))
 (ss_one (s_ret (e_and (e_cmp (d_eq hu64) (nomark _) (e_call ((ok_18 T).mono (by omega)) hr (by rfl) T.m_18 T.f_18.kp T.p_18 (a_cons (e_ix (e_pk 1) e_int) (a_cons (e_ix (e_pk 1) e_int) a_nil))) (e_pk 2)) (e_and (e_cmp (d_eq hu64) (nomark _) (e_call ((ok_18 T).mono (by omega)) hr (by rfl) T.m_18 T.f_18.kp T.p_18 (a_cons (e_ix (e_pk 1) e_int) (a_cons (e_ix (e_pk 1) e_int) a_nil))) (e_pk 2)) (e_one (e_cmp (d_eq hu64) (nomark _) (e_call ((ok_18 T).mono (by omega)) hr (by rfl) T.m_18 T.f_18.kp T.p_18 (a_cons (e_ix (e_pk 1) e_int) (a_cons (e_ix (e_pk 1) e_int) a_nil))) (e_pk 0)))))))))
theorem ok_24 {P : Program} {w : World} {K : PySem.W.Frag} {mg : Str → Option Value} {base : Heap} {A : Nat → Addr} {Fd : Nat → FuncData} (T : Txt K mg A Fd) : FnOk P w K mg base CX0 7 (A 24) (Fd 24) ["script"] (spV K fn_24) :=
  fn_ok (k := 6) T.f_24 sc_24 (by decide) fun cdv A' outer s H E C hr => by
    have hu1 := hu_of hr
    have hu64 := hr.units
    have hu65 : (A'.deeper (envOfC "law" (defScope s_24) s.heap.objs.size (A 24) cdv)).units + 65 < cLine := by have := hr.un; omega
    exact
 (ss_cons (s_set (i := 1) sc_24.nd rfl (by first | exact Or.inl rfl | exact Or.inr rfl) (e_call ((ok_12 T).mono (by omega)) hr (by rfl) T.m_12 T.f_12.kp T.p_12 (a_cons (e_var 0) a_nil)))
 (ss_cons (s_set (i := 2) sc_24.nd rfl (by first | exact Or.inl rfl | exact Or.inr rfl) (e_bin d_add e_int (e_call ((ok_13 T).mono (by omega)) hr (by rfl) T.m_13 T.f_13.kp T.p_13 (a_cons (e_pk 1) (a_cons e_int a_nil)))))
 (ss_cons (s_par (i := 3) (j := 4) rfl sc_24.nd rfl rfl (by decide) rfl rfl (e_call ((ok_15 T).mono (by omega)) hr (by rfl) T.m_15 T.f_15.kp T.p_15 (a_cons (e_pk 1) (a_cons (e_var 2) a_nil))) (fun _ => (e_call ((ok_15 T).mono (by omega)) hr (by rfl) T.m_15 T.f_15.kp T.p_15 (a_cons (e_pk 1) (a_cons (e_var 2) a_nil)))) (by rfl))
 (ss_cons (s_set (i := 5) sc_24.nd rfl (by first | exact Or.inl rfl | exact Or.inr rfl) (e_call ((ok_7 T).mono (by omega)) hr (by rfl) T.m_7 T.f_7.kp T.p_7 (a_cons (e_var 3) a_nil)))
 (ss_cons (s_if (t_not (t_tru (e_call ((ok_23 T).mono (by omega)) hr (by rfl) T.m_23 T.f_23.kp T.p_23 (a_cons (e_var 3) (a_cons (e_var 5) a_nil)))))
 (ss_one (s_ret e_bl))
 ss_nil)
 (ss_cons (s_set (i := 6) sc_24.nd rfl (by first | exact Or.inl rfl | exact Or.inr rfl) (e_tupRg1 rfl (by rfl) T.b_tuple (by rfl) T.b_range (e_callB b_len (by rfl) T.b_len (by decide +kernel) (a_cons (e_pk 3) a_nil))))
 (ss_cons (s_set (i := 7) sc_24.nd rfl (by first | exact Or.inl rfl | exact Or.inr rfl) (e_lst (a_cons (e_var 5) (a_cons (e_tup (a_cons (e_ix (e_pk 5) e_int) (a_cons (e_ix (e_pk 5) e_int) a_nil))) (a_cons (e_tup (a_cons (e_var 3) (a_cons (e_var 6) a_nil))) (a_cons (e_tup (a_cons (e_var 6) (a_cons (e_var 3) a_nil))) (a_cons (e_bin d_add (e_pk 5) (e_tup (a_cons (e_var 6) a_nil))) (a_cons (e_sl (e_pk 5) o_no (o_p e_int)) (a_cons (e_callTy b_list (by rfl) T.b_list (by decide +kernel) (a_cons (e_pk 5) a_nil)) (a_cons e_non (a_cons (e_tup a_nil) (a_cons (e_tup (a_cons (e_var 6) (a_cons (e_var 6) a_nil))) (a_cons (e_tup (a_cons (e_ix (e_pk 5) e_int) (a_cons (e_callTy b_list (by rfl) T.b_list (by decide +kernel) (a_cons (e_ix (e_pk 5) e_int) a_nil)) a_nil))) a_nil)))))))))))))
 (ss_cons (s_for (i_seq (e_bin d_add (e_pk 7) (e_lst (a_cons (e_call ((ok_22 T 4).mono (by omega)) hr (by rfl) T.m_22 T.f_22.kp T.p_22 (a_cons (e_pk 1) (a_cons (e_var 5) a_nil))) (a_cons (e_call ((ok_22 T 4).mono (by omega)) hr (by rfl) T.m_22 T.f_22.kp T.p_22 (a_cons (e_pk 1) (a_cons (e_var 5) a_nil))) (a_cons (e_call ((ok_22 T 4).mono (by omega)) hr (by rfl) T.m_22 T.f_22.kp T.p_22 (a_cons (e_pk 1) (a_cons (e_tup (a_cons (e_var 6) (a_cons (e_var 3) a_nil))) a_nil))) (a_cons (e_tup (a_cons (e_var 4) (a_cons (e_var 4) a_nil))) a_nil))))))) (g_name sc_24.nd rfl (by first | exact Or.inl rfl | exact Or.inr rfl))
 (ss_one (s_if (t_not (t_tru (e_call ((ok_14 T).mono (by omega)) hr (by rfl) T.m_14 T.f_14.kp T.p_14 (a_cons (e_call ((ok_8 T).mono (by omega)) hr (by rfl) T.m_8 T.f_8.kp T.p_8 (a_cons (e_var 3) (a_cons (e_var 8) a_nil))) (a_cons (e_call ((ok_23 T).mono (by omega)) hr (by rfl) T.m_23 T.f_23.kp T.p_23 (a_cons (e_var 3) (a_cons (e_var 8) a_nil))) a_nil)))))
 (ss_one (s_ret e_bl))
 ss_nil)) (fun hi hg hb => ps_for PassesOwn.never rfl hi hg hb))
 (ss_cons (s_if (t_cmp (d_eq hu64) (nomark _) (e_pk 2) e_int)
 (ss_one (s_ret e_bl))
 ss_nil)
 (ss_cons (s_par (i := 9) (j := 10) rfl sc_24.nd rfl rfl (by decide) rfl rfl (e_lst (a_cons (e_var 6) a_nil)) (fun _ => (e_var 3)) (by rfl))
 (ss_cons (s_while PassesOwn.never (t_cmp (d_ne hu64) (nomark _) (e_pk 10) (e_pk 6))
 (ss_cons (s_expr (e_meth PySem.F.plainAttrs_list PySem.F.slot_list_append PySem.F.type_list_append m_append (pv 9) (a_cons (e_var 10) a_nil)))
 (ss_one (s_set (i := 10) sc_24.nd rfl (by first | exact Or.inl rfl | exact Or.inr rfl) (e_call ((ok_18 T).mono (by omega)) hr (by rfl) T.m_18 T.f_18.kp T.p_18 (a_cons (e_var 10) (a_cons (e_var 3) a_nil)))))))
 (ss_cons (s_for (i_seq (e_lst (a_cons (e_ix (e_pk 9) (e_call ((ok_13 T).mono (by omega)) hr (by rfl) T.m_13 T.f_13.kp T.p_13 (a_cons (e_pk 1) (a_cons (e_callB b_len (by rfl) T.b_len (by decide +kernel) (a_cons (e_pk 9) a_nil)) a_nil)))) (a_cons (e_var 4) (a_cons (e_var 6) (a_cons (e_var 3) a_nil)))))) (g_name sc_24.nd rfl (by first | exact Or.inl rfl | exact Or.inr rfl))
 (ss_cons (s_set (i := 12) sc_24.nd rfl (by first | exact Or.inl rfl | exact Or.inr rfl) (e_if (t_cmp (d_in hu65) (by rfl) (e_pk 11) (e_pk 9)) (e_read PySem.F.plainAttrs_list PySem.F.slot_list_index PySem.F.type_list_index (m_index hu65) (e_pk 9) (a_cons (e_pk 11) a_nil)) e_non))
 (ss_cons (s_set (i := 13) sc_24.nd rfl (by first | exact Or.inl rfl | exact Or.inr rfl) (e_call ((ok_9 T).mono (by omega)) hr (by rfl) T.m_9 T.f_9.kp T.p_9 (a_cons (e_var 3) (a_cons (e_var 11) a_nil))))
 (ss_one (s_if (t_w (w_or (t_cmp (d_ne hu64) (nomark _) (e_pk 13) (e_pk 12)) (w_or1 (t_w (w_and (t_cmp d_isNot (nomark _) (e_pk 12) e_non) (w_and1 (t_w (w_or (t_not (t_tru (e_isi k_int (by rfl) T.b_isinstance (by rfl) T.b_int (by decide +kernel) (e_pk 13)))) (w_or1 (t_tru (e_isi k_bool (by rfl) T.b_isinstance (by rfl) T.b_bool (by decide +kernel) (e_pk 13))))))))))))
 (ss_one (s_ret e_bl))
 ss_nil)))) (fun hi hg hb => ps_for PassesOwn.never rfl hi hg hb))
 (ss_one (s_ret e_bl))))))))))))))
theorem fin {l : PySem.W.OpenLaw} {w : World} {K : PySem.W.Frag} {h : Heap} {mg : Str → Option Value} (X : K.In h) (G : h.Ns mainGlobals mg)
    (d1 : DefAt K "rings_of" s_1)
    (d2 : DefAt K "by_length" s_2)
    (d3 : DefAt K "ring_counts" s_3)
    (d4 : DefAt K "powered" s_4)
    (d5 : DefAt K "behind_each_other" s_5)
    (d6 : DefAt K "is_table" s_6)
    (d7 : DefAt K "two_turns" s_7)
    (d8 : DefAt K "takes_turns" s_8)
    (d9 : DefAt K "least_power" s_9)
    (d10 : DefAt K "divisor_of" s_10)
    (d12 : DefAt K "_law_draw" s_12)
    (d13 : DefAt K "_law_take" s_13)
    (d14 : DefAt K "_law_says" s_14)
    (d15 : DefAt K "_law_perm" s_15)
    (d18 : DefAt K "_law_behind" s_18)
    (d20 : DefAt K "_law_is_table" s_20)
    (d22 : DefAt K "_law_bent" s_22)
    (d23 : DefAt K "_law_right" s_23)
    (d24 : DefAt K "law" s_24)
    (z_abs : PySem.W.nsIn K mainGlobals "abs" = some none)
    (z_all : PySem.W.nsIn K mainGlobals "all" = some none)
    (z_bool : PySem.W.nsIn K mainGlobals "bool" = some none)
    (z_enumerate : PySem.W.nsIn K mainGlobals "enumerate" = some none)
    (z_int : PySem.W.nsIn K mainGlobals "int" = some none)
    (z_isinstance : PySem.W.nsIn K mainGlobals "isinstance" = some none)
    (z_len : PySem.W.nsIn K mainGlobals "len" = some none)
    (z_list : PySem.W.nsIn K mainGlobals "list" = some none)
    (z_min : PySem.W.nsIn K mainGlobals "min" = some none)
    (z_range : PySem.W.nsIn K mainGlobals "range" = some none)
    (z_sorted : PySem.W.nsIn K mainGlobals "sorted" = some none)
    (z_tuple : PySem.W.nsIn K mainGlobals "tuple" = some none)
    : ∃ fa fd, mg "law" = some (.ref fa) ∧ Fun K "law" "law" s_24 fa fd ∧ ∀ base : Heap, K.In base → base.Ns mainGlobals mg → FnOk l.prog w K mg base CX0 7 fa fd ["script"] (spV K fn_24) := by
  obtain ⟨f1, fd1, a1, F1⟩ := d1
  have B1 := F1.binds (ps := ["row"]) fun _ _ _ _ _ _ us hl => match us, hl with | [_], _ => rfl
  obtain ⟨f2, fd2, a2, F2⟩ := d2
  have B2 := F2.binds (ps := ["row"]) fun _ _ _ _ _ _ us hl => match us, hl with | [_], _ => rfl
  obtain ⟨f3, fd3, a3, F3⟩ := d3
  have B3 := F3.binds (ps := ["row"]) fun _ _ _ _ _ _ us hl => match us, hl with | [_], _ => rfl
  obtain ⟨f4, fd4, a4, F4⟩ := d4
  have B4 := F4.binds (ps := ["row", "k"]) fun _ _ _ _ _ _ us hl => match us, hl with | [_, _], _ => rfl
  obtain ⟨f5, fd5, a5, F5⟩ := d5
  have B5 := F5.binds (ps := ["first", "second"]) fun _ _ _ _ _ _ us hl => match us, hl with | [_, _], _ => rfl
  obtain ⟨f6, fd6, a6, F6⟩ := d6
  have B6 := F6.binds (ps := ["value", "size"]) fun _ _ _ _ _ _ us hl => match us, hl with | [_, _], _ => rfl
  obtain ⟨f7, fd7, a7, F7⟩ := d7
  have B7 := F7.binds (ps := ["row"]) fun _ _ _ _ _ _ us hl => match us, hl with | [_], _ => rfl
  obtain ⟨f8, fd8, a8, F8⟩ := d8
  have B8 := F8.binds (ps := ["row", "value"]) fun _ _ _ _ _ _ us hl => match us, hl with | [_, _], _ => rfl
  obtain ⟨f9, fd9, a9, F9⟩ := d9
  have B9 := F9.binds (ps := ["row", "other"]) fun _ _ _ _ _ _ us hl => match us, hl with | [_, _], _ => rfl
  obtain ⟨f10, fd10, a10, F10⟩ := d10
  have B10 := F10.binds (ps := ["x", "y"]) fun _ _ _ _ _ _ us hl => match us, hl with | [_, _], _ => rfl
  obtain ⟨f12, fd12, a12, F12⟩ := d12
  have B12 := F12.binds (ps := ["script"]) fun _ _ _ _ _ _ us hl => match us, hl with | [_], _ => rfl
  obtain ⟨f13, fd13, a13, F13⟩ := d13
  have B13 := F13.binds (ps := ["draw", "many"]) fun _ _ _ _ _ _ us hl => match us, hl with | [_, _], _ => rfl
  obtain ⟨f14, fd14, a14, F14⟩ := d14
  have B14 := F14.binds (ps := ["value", "due"]) fun _ _ _ _ _ _ us hl => match us, hl with | [_, _], _ => rfl
  obtain ⟨f15, fd15, a15, F15⟩ := d15
  have B15 := F15.binds (ps := ["draw", "wires"]) fun _ _ _ _ _ _ us hl => match us, hl with | [_, _], _ => rfl
  obtain ⟨f18, fd18, a18, F18⟩ := d18
  have B18 := F18.binds (ps := ["first", "second"]) fun _ _ _ _ _ _ us hl => match us, hl with | [_, _], _ => rfl
  obtain ⟨f20, fd20, a20, F20⟩ := d20
  have B20 := F20.binds (ps := ["value", "size"]) fun _ _ _ _ _ _ us hl => match us, hl with | [_, _], _ => rfl
  obtain ⟨f22, fd22, a22, F22⟩ := d22
  have B22 := F22.binds (ps := ["draw", "data"]) fun _ _ _ _ _ _ us hl => match us, hl with | [_, _], _ => rfl
  obtain ⟨f23, fd23, a23, F23⟩ := d23
  have B23 := F23.binds (ps := ["row", "value"]) fun _ _ _ _ _ _ us hl => match us, hl with | [_, _], _ => rfl
  obtain ⟨f24, fd24, a24, F24⟩ := d24
  have B24 := F24.binds (ps := ["script"]) fun _ _ _ _ _ _ us hl => match us, hl with | [_], _ => rfl
  have T : Txt K mg (fun i => match i with | 1 => f1 | 2 => f2 | 3 => f3 | 4 => f4 | 5 => f5 | 6 => f6 | 7 => f7 | 8 => f8 | 9 => f9 | 10 => f10 | 12 => f12 | 13 => f13 | 14 => f14 | 15 => f15 | 18 => f18 | 20 => f20 | 22 => f22 | 23 => f23 | 24 => f24 | _ => 0) (fun i => match i with | 1 => fd1 | 2 => fd2 | 3 => fd3 | 4 => fd4 | 5 => fd5 | 6 => fd6 | 7 => fd7 | 8 => fd8 | 9 => fd9 | 10 => fd10 | 12 => fd12 | 13 => fd13 | 14 => fd14 | 15 => fd15 | 18 => fd18 | 20 => fd20 | 22 => fd22 | 23 => fd23 | 24 => fd24 | _ => fd24) :=
    { b_abs := PySem.W.mg_none_of X G z_abs,
      b_all := PySem.W.mg_none_of X G z_all,
      b_bool := PySem.W.mg_none_of X G z_bool,
      b_enumerate := PySem.W.mg_none_of X G z_enumerate,
      b_int := PySem.W.mg_none_of X G z_int,
      b_isinstance := PySem.W.mg_none_of X G z_isinstance,
      b_len := PySem.W.mg_none_of X G z_len,
      b_list := PySem.W.mg_none_of X G z_list,
      b_min := PySem.W.mg_none_of X G z_min,
      b_range := PySem.W.mg_none_of X G z_range,
      b_sorted := PySem.W.mg_none_of X G z_sorted,
      b_tuple := PySem.W.mg_none_of X G z_tuple,
      m_1 := PySem.W.mg_of X G a1, f_1 := F1, p_1 := B1,
      m_2 := PySem.W.mg_of X G a2, f_2 := F2, p_2 := B2,
      m_3 := PySem.W.mg_of X G a3, f_3 := F3, p_3 := B3,
      m_4 := PySem.W.mg_of X G a4, f_4 := F4, p_4 := B4,
      m_5 := PySem.W.mg_of X G a5, f_5 := F5, p_5 := B5,
      m_6 := PySem.W.mg_of X G a6, f_6 := F6, p_6 := B6,
      m_7 := PySem.W.mg_of X G a7, f_7 := F7, p_7 := B7,
      m_8 := PySem.W.mg_of X G a8, f_8 := F8, p_8 := B8,
      m_9 := PySem.W.mg_of X G a9, f_9 := F9, p_9 := B9,
      m_10 := PySem.W.mg_of X G a10, f_10 := F10, p_10 := B10,
      m_12 := PySem.W.mg_of X G a12, f_12 := F12, p_12 := B12,
      m_13 := PySem.W.mg_of X G a13, f_13 := F13, p_13 := B13,
      m_14 := PySem.W.mg_of X G a14, f_14 := F14, p_14 := B14,
      m_15 := PySem.W.mg_of X G a15, f_15 := F15, p_15 := B15,
      m_18 := PySem.W.mg_of X G a18, f_18 := F18, p_18 := B18,
      m_20 := PySem.W.mg_of X G a20, f_20 := F20, p_20 := B20,
      m_22 := PySem.W.mg_of X G a22, f_22 := F22, p_22 := B22,
      m_23 := PySem.W.mg_of X G a23, f_23 := F23, p_23 := B23,
      m_24 := PySem.W.mg_of X G a24, f_24 := F24, p_24 := B24 }
  exact ⟨f24, fd24, T.m_24, T.f_24, fun base _ _ => ok_24 (P := l.prog) (w := w) (base := base) T⟩
end VP
namespace VL
open PySem PyProof.Rows L2
/-! ### reckoning with mirrors: each word at an environment -/
section
variable {α β : Type} {a : α} {e env : VE} {f : α → VE → Out β} {d : Da} {ma mb mc m : ME} {ms : List ME} {mA : MA} {t ta tb : MT} {s s1 s2 : MS} {g : MG} {mi : MI} {i j : Nat} {x : Da} {r r1 r2 : Sl} {rs : List Sl}
theorem z_ok : (Out.ok a e).bind f = f a e := id rfl
theorem z_no : (Out.no : Out α).bind f = .no := id rfl
theorem z_exc : (Out.exc x : Out α).bind f = .exc x := id rfl
theorem z_C : mC d e = .ok (.val d) e := id rfl
theorem z_Var : mVar i e = mVarAt i e e[i]? := id rfl
def pkK (i : Nat) (e : VE) : Option Da → Out Sl
  | some _ => .ok (.pk i) e
  | none => .no
theorem z_Pk : mPk i e = pkK i e (lookAt e[i]?) := by unfold mPk pkK; cases lookAt e[i]? <;> rfl
theorem z_pkK : pkK i e (some d) = .ok (.pk i) e := id rfl
theorem z_Take : mTake i e = takeAt i e e[i]? := id rfl
theorem z_Op : mOp m e = (m e).bind opd := id rfl
theorem z_opV : opd (.val d) e = .ok (.val d) e := id rfl
theorem z_opP : opd (.pk i) e = .ok (.pk i) e := id rfl
theorem z_opO {xs : List Da} : opd (.own xs) e = .ok (.val (.list xs)) e := id rfl
theorem z_opS {ns : List Int} : opd (.scr ns) e = .ok (.scr ns) e := id rfl
section
variable {f g : Da → Da → Option Sl} {h : Da → Option Sl}
def binK2 (f : Da → Da → Option Sl) (r1 r2 : Sl) (e : VE) : Out Sl := app2 f (look r1 e) (look r2 e) e
def binK (f : Da → Da → Option Sl) (mb : ME) (r1 : Sl) (e : VE) : Out Sl := (mOp mb e).bind (binK2 f r1)
theorem z_Bin : mBin f ma mb e = (mOp ma e).bind (binK f mb) := id rfl
theorem z_binK : binK f mb r1 e = (mOp mb e).bind (binK2 f r1) := id rfl
theorem z_binK2 : binK2 f r1 r2 e = app2 f (look r1 e) (look r2 e) e := id rfl
theorem z_app2 {x y : Da} : app2 f (some x) (some y) e = VL.ret (f x y) e := id rfl
def unK (h : Da → Option Sl) (r : Sl) (e : VE) : Out Sl := app1 h (look r e) e
theorem z_Un : mUn h ma e = (mOp ma e).bind (unK h) := id rfl
theorem z_unK : unK h r e = app1 h (look r e) e := id rfl
theorem z_app1 {x : Da} : app1 h (some x) e = VL.ret (h x) e := id rfl
theorem z_ret : VL.ret (some r) e = .ok r e := id rfl
def chK2 (f g : Da → Da → Option Sl) (mc : ME) (r1 r2 : Sl) (e : VE) : Out Sl := chain2 f g mc r2 (look r1 e) (look r2 e) e
def chK (f g : Da → Da → Option Sl) (mb mc : ME) (r1 : Sl) (e : VE) : Out Sl := (mOp mb e).bind (chK2 f g mc r1)
theorem z_Chain : mChain f g ma mb mc e = (mOp ma e).bind (chK f g mb mc) := id rfl
theorem z_chK : chK f g mb mc r1 e = (mOp mb e).bind (chK2 f g mc r1) := id rfl
theorem z_chK2 : chK2 f g mc r1 r2 e = chain2 f g mc r2 (look r1 e) (look r2 e) e := id rfl
theorem z_chain2 {x y : Da} : chain2 f g mc r2 (some x) (some y) e = chn g mc r2 (f x y) e := id rfl
theorem z_chnT : chn g mc r2 (some (.val (.bool true))) e = (mOp mc e).bind (binK2 g r2) := id rfl
theorem z_chnF : chn g mc r2 (some (.val (.bool false))) e = .ok (.val (.bool false)) e := id rfl
end
def tbK (r : Sl) (e : VE) : Out Bool := tst (look r e) e
theorem z_TB : mTB m e = (mOp m e).bind tbK := id rfl
theorem z_tbK : tbK r e = tst (look r e) e := id rfl
theorem z_tst {b : Bool} : tst (some (.bool b)) e = .ok b e := id rfl
def truK (r : Sl) (e : VE) : Out Bool := tru (look r e) e
theorem z_Tru : mTru m e = (mOp m e).bind truK := id rfl
theorem z_truK : truK r e = tru (look r e) e := id rfl
theorem z_truB {b : Bool} : tru (some (.bool b)) e = .ok b e := id rfl
theorem z_truI {n : Int} : tru (some (.int n)) e = .ok (n != 0) e := id rfl
theorem z_truN : tru (some .none) e = .ok false e := id rfl
theorem z_truL {xs : List Da} : tru (some (.list xs)) e = .ok (!xs.isEmpty) e := id rfl
theorem z_truT {xs : List Da} : tru (some (.tuple xs)) e = .ok (!xs.isEmpty) e := id rfl
def andK (tb : MT) (c : Bool) (e : VE) : Out Bool := if c = true then tb e else .ok false e
theorem z_And : mAnd ta tb e = (ta e).bind (andK tb) := id rfl
theorem z_andT : andK tb true e = tb e := id rfl
theorem z_andF : andK tb false e = .ok false e := id rfl
def orK (tb : MT) (c : Bool) (e : VE) : Out Bool := if c = true then .ok true e else tb e
theorem z_Or : mOr ta tb e = (ta e).bind (orK tb) := id rfl
theorem z_orT : orK tb true e = .ok true e := id rfl
theorem z_orF : orK tb false e = tb e := id rfl
def notK (c : Bool) (e : VE) : Out Bool := .ok (!c) e
theorem z_Not : mNot ta e = (ta e).bind notK := id rfl
theorem z_notK {c : Bool} : notK c e = .ok (!c) e := id rfl
def bvK (c : Bool) (e : VE) : Out Sl := .ok (.val (.bool c)) e
theorem z_BV : mBV t e = (t e).bind bvK := id rfl
theorem z_bvK {c : Bool} : bvK c e = .ok (.val (.bool c)) e := id rfl
def andVK (mb : ME) (c : Bool) (e : VE) : Out Sl := if c = true then mb e else .ok (.val (.bool false)) e
theorem z_AndV : mAndV ma mb e = (mTB ma e).bind (andVK mb) := id rfl
theorem z_andVT : andVK mb true e = mb e := id rfl
theorem z_andVF : andVK mb false e = .ok (.val (.bool false)) e := id rfl
def orVK (mb : ME) (c : Bool) (e : VE) : Out Sl := if c = true then .ok (.val (.bool true)) e else mb e
theorem z_OrV : mOrV ma mb e = (mTB ma e).bind (orVK mb) := id rfl
theorem z_orVT : orVK mb true e = .ok (.val (.bool true)) e := id rfl
theorem z_orVF : orVK mb false e = mb e := id rfl
def ifVK (ma mb : ME) (c : Bool) (e : VE) : Out Sl := if c = true then ma e else mb e
theorem z_If : mIf t ma mb e = (t e).bind (ifVK ma mb) := id rfl
theorem z_ifVT : ifVK ma mb true e = ma e := id rfl
theorem z_ifVF : ifVK ma mb false e = mb e := id rfl
def arK2 (r : Sl) (rs : List Sl) (e : VE) : Out (List Sl) := .ok (r :: rs) e
def arK (ms : List ME) (r : Sl) (e : VE) : Out (List Sl) := (mArgs ms e).bind (arK2 r)
theorem z_Args0 : mArgs [] e = .ok [] e := id rfl
theorem z_Args : mArgs (m :: ms) e = (mOp m e).bind (arK ms) := id rfl
theorem z_arK : arK ms r e = (mArgs ms e).bind (arK2 r) := id rfl
theorem z_arK2 : arK2 r rs e = .ok (r :: rs) e := id rfl
def liK (rs : List Sl) (e : VE) : Out Sl := dispL (valsOf rs) e
def tuK (rs : List Sl) (e : VE) : Out Sl := dispT (valsOf rs) e
theorem z_List : mList mA e = (mA e).bind liK := id rfl
theorem z_liK : liK rs e = dispL (valsOf rs) e := id rfl
theorem z_Tup : mTup mA e = (mA e).bind tuK := id rfl
theorem z_tuK : tuK rs e = dispT (valsOf rs) e := id rfl
theorem z_NewK : mNewK e = .ok (.odk []) e := id rfl
theorem z_NewT : mNewT e = .ok (.odt []) e := id rfl
def cbK (g : List Da → Option Sl) (rs : List Sl) (e : VE) : Out Sl := appA g (lookAll rs e) e
theorem z_CallB {g : List Da → Option Sl} : mCallB g mA e = (mA e).bind (cbK g) := id rfl
theorem z_cbK {g : List Da → Option Sl} : cbK g rs e = appA g (lookAll rs e) e := id rfl
theorem z_appA {g : List Da → Option Sl} {ds : List Da} : appA g (some ds) e = VL.ret (g ds) e := id rfl
theorem z_look0 : lookAll [] e = some [] := id rfl
def lkK : Option Da → Option (List Da) → Option (List Da)
  | some d, some ds => some (d :: ds)
  | _, _ => none
theorem z_look1 : lookAll (r :: rs) e = lkK (look r e) (lookAll rs e) := by
  show (match look r e, lookAll rs e with
    | some d, some ds => some (d :: ds)
    | _, _ => none) = _
  unfold lkK
  cases look r e <;> cases lookAll rs e <;> rfl
theorem z_lkK {ds : List Da} : lkK (some d) (some ds) = some (d :: ds) := id rfl
theorem z_lookV : look (.val d) e = some d := id rfl
theorem z_lookP : look (.pk i) e = lookAt e[i]? := id rfl
theorem z_atV : lookAt (some (.val d)) = some d := id rfl
theorem z_atO {xs : List Da} : lookAt (some (.own xs)) = some (.list xs) := id rfl
theorem z_atI {xs : List Da} : lookAt (some (.io xs)) = some (.list xs) := id rfl
theorem z_atK {xs : List (Key × Da)} : lookAt (some (.odk xs)) = some (.dict (kdK xs)) := id rfl
def dgK2 (r1 r2 : Sl) (e : VE) : Out Sl := dgetM (lookD r1 e) (look r2 e) e
def dgK (mb : ME) (r1 : Sl) (e : VE) : Out Sl := (mOp mb e).bind (dgK2 r1)
theorem z_DGet : mDGet ma mb e = (mOp ma e).bind (dgK mb) := id rfl
theorem z_dgK : dgK mb r1 e = (mOp mb e).bind (dgK2 r1) := id rfl
theorem z_dgK2 : dgK2 r1 r2 e = dgetM (lookD r1 e) (look r2 e) e := id rfl
def diK2 (neg : Bool) (r1 r2 : Sl) (e : VE) : Out Sl := dinM neg (lookD r2 e) (look r1 e) e
def diK (neg : Bool) (mb : ME) (r1 : Sl) (e : VE) : Out Sl := (mOp mb e).bind (diK2 neg r1)
theorem z_DIn {neg : Bool} : mDIn neg ma mb e = (mOp ma e).bind (diK neg mb) := id rfl
theorem z_diK {neg : Bool} : diK neg mb r1 e = (mOp mb e).bind (diK2 neg r1) := id rfl
theorem z_diK2 {neg : Bool} : diK2 neg r1 r2 e = dinM neg (lookD r2 e) (look r1 e) e := id rfl
def slK3 (r : Sl) (l u : Option Int) (e : VE) : Out Sl := sliceM l u (look r e) e
def slK2 (mh : MO) (r : Sl) (l : Option Int) (e : VE) : Out Sl := (mh e).bind (slK3 r l)
def slK (ml mh : MO) (r : Sl) (e : VE) : Out Sl := (ml e).bind (slK2 mh r)
theorem z_Sl {ml mh : MO} : mSl ma ml mh e = (mOp ma e).bind (slK ml mh) := id rfl
theorem z_slK {ml mh : MO} : slK ml mh r e = (ml e).bind (slK2 mh r) := id rfl
theorem z_slK2 {mh : MO} {l : Option Int} : slK2 mh r l e = (mh e).bind (slK3 r l) := id rfl
theorem z_slK3 {l u : Option Int} : slK3 r l u e = sliceM l u (look r e) e := id rfl
def piK (r : Sl) (e : VE) : Out (Option Int) := pIR (look r e) e
where pIR : Option Da → VE → Out (Option Int)
  | some (.int i), e => .ok (some i) e
  | _, _ => .no
theorem z_P : mP m e = (mOp m e).bind pI := id rfl
theorem z_pI {n : Int} : pI (.val (.int n)) e = .ok (some n) e := id rfl
theorem z_NoP : mNoP e = .ok none e := id rfl
section
variable {f : List Da → List Da → Option (Da × List Da)} {h : List Da → List Da → Option Sl}
def meK (i : Nat) (f : List Da → List Da → Option (Da × List Da)) (rs : List Sl) (e : VE) : Out Sl := methE i f (valsOf rs) e[i]? e
def meB (i : Nat) (f : List Da → List Da → Option (Da × List Da)) (mA : MA) (e : VE) (b : Bool) : Out Sl := if b = true then (mA e).bind (meK i f) else .no
theorem z_Meth : mMeth i f mA e = meB i f mA e (isL (lookAt e[i]?)) := id rfl
theorem z_meB : meB i f mA e true = (mA e).bind (meK i f) := id rfl
theorem z_meK : meK i f rs e = methE i f (valsOf rs) e[i]? e := id rfl
theorem z_meO {ds xs : List Da} : methE i f (some ds) (some (.own xs)) e = methR i .own (f xs ds) e := id rfl
theorem z_meI {ds xs : List Da} : methE i f (some ds) (some (.io xs)) e = methR i .io (f xs ds) e := id rfl
theorem z_meR {mk : List Da → Sl} {xs : List Da} : methR i mk (some (d, xs)) e = .ok (.val d) (e.set i (mk xs)) := id rfl
theorem z_isL {xs : List Da} : isL (some (.list xs)) = true := id rfl
def rdK2 (h : List Da → List Da → Option Sl) (r : Sl) (rs : List Sl) (e : VE) : Out Sl := rdM h (look r e) (lookAll rs e) e
def rdB (h : List Da → List Da → Option Sl) (mA : MA) (r : Sl) (e : VE) (b : Bool) : Out Sl := if b = true then (mA e).bind (rdK2 h r) else .no
def rdK (h : List Da → List Da → Option Sl) (mA : MA) (r : Sl) (e : VE) : Out Sl := rdB h mA r e (isL (look r e))
theorem z_Read : mRead h m mA e = (mOp m e).bind (rdK h mA) := id rfl
theorem z_rdK : rdK h mA r e = rdB h mA r e (isL (look r e)) := id rfl
theorem z_rdB : rdB h mA r e true = (mA e).bind (rdK2 h r) := id rfl
theorem z_rdK2 : rdK2 h r rs e = rdM h (look r e) (lookAll rs e) e := id rfl
theorem z_rdM {xs ds : List Da} : rdM h (some (.list xs)) (some ds) e = VL.ret (h xs ds) e := id rfl
end
theorem z_It : mIt m e = (mOp m e).bind itemsV := id rfl
theorem z_itL {xs : List Da} : itemsV (.val (.list xs)) e = .ok xs e := id rfl
theorem z_itT {xs : List Da} : itemsV (.val (.tuple xs)) e = .ok xs e := id rfl
theorem z_itS {ns : List Int} : itemsV (.scr ns) e = .ok (ns.map PyData.int) e := id rfl
def r1K (r : Sl) (e : VE) : Out (List Da) := rgI1 (look r e) e
theorem z_Rg1 : mRg1 m e = (mOp m e).bind r1K := id rfl
theorem z_r1K : r1K r e = rgI1 (look r e) e := id rfl
theorem z_rgI1 {n : Int} : rgI1 (some (.int n)) e = rgI 0 n e := id rfl
def r2K2 (r r2 : Sl) (e : VE) : Out (List Da) := rgI2 (look r e) (look r2 e) e
def r2K (mb : ME) (r : Sl) (e : VE) : Out (List Da) := (mOp mb e).bind (r2K2 r)
theorem z_Rg2 : mRg2 m mb e = (mOp m e).bind (r2K mb) := id rfl
theorem z_r2K : r2K mb r e = (mOp mb e).bind (r2K2 r) := id rfl
theorem z_r2K2 : r2K2 r r2 e = rgI2 (look r e) (look r2 e) e := id rfl
theorem z_rgI2 {n k : Int} : rgI2 (some (.int n)) (some (.int k)) e = rgI n k e := id rfl
theorem z_Enum : mEnum m e = (mOp m e).bind itemsE := id rfl
theorem z_itE {xs : List Da} : itemsE (.val (.list xs)) e = .ok (enumD xs) e := id rfl
theorem z_Next : sNext e = .ok .nx e := id rfl
theorem z_Pass : sPass e = .ok .nx e := id rfl
theorem z_Break : sBreak e = .ok .bk e := id rfl
theorem z_Cont : sCont e = .ok .ct e := id rfl
theorem z_Seq : sSeq s1 s2 e = (s1 e).bind (seqF s2) := id rfl
theorem z_seqN : seqF s .nx e = s e := id rfl
theorem z_seqR : seqF s (.rt r) e = .ok (.rt r) e := id rfl
theorem z_seqB : seqF s .bk e = .ok .bk e := id rfl
theorem z_seqC : seqF s .ct e = .ok .ct e := id rfl
def exK (_ : Sl) (e : VE) : Out Fl := .ok .nx e
theorem z_Expr : sExpr m e = (m e).bind exK := id rfl
theorem z_exK : exK r e = .ok .nx e := id rfl
def reK (r : Sl) (e : VE) : Out Fl := .ok (.rt r) e
theorem z_Ret : sRet m e = (m e).bind reK := id rfl
theorem z_reK : reK r e = .ok (.rt r) e := id rfl
theorem z_RetN : sRetN e = .ok (.rt (.val .none)) e := id rfl
def ifK (s1 s2 : MS) (c : Bool) (e : VE) : Out Fl := if c = true then s1 e else s2 e
theorem z_SIf : sIf t s1 s2 e = (t e).bind (ifK s1 s2) := id rfl
theorem z_ifT : ifK s1 s2 true e = s1 e := id rfl
theorem z_ifF : ifK s1 s2 false e = s2 e := id rfl
def asK2 (_ : Unit) (e : VE) : Out Fl := .ok .nx e
def asK (g : MG) (r : Sl) (e : VE) : Out Fl := (g r e).bind asK2
theorem z_Asg : sAsg m g e = (m e).bind (asK g) := id rfl
theorem z_asK : asK g r e = (g r e).bind asK2 := id rfl
theorem z_asK2 {u : Unit} : asK2 u e = .ok .nx e := id rfl
theorem z_Nm : gNm i r e = if i < e.length ∧ notPk r = true then .ok () (e.set i r) else .no := id rfl
theorem z_npV : notPk (.val d) = true := id rfl
theorem z_npO {xs : List Da} : notPk (.own xs) = true := id rfl
theorem z_npK {xs : List (Key × Da)} : notPk (.odk xs) = true := id rfl
theorem z_npS {xs : List Int} : notPk (.scr xs) = true := id rfl
def suK (j : Nat) (d : Da) (r : Sl) (e : VE) : Out Unit := setA j d e[j]? (look r e) e
def suB (j : Nat) (m : ME) (d : Da) (e : VE) (b : Bool) : Out Unit := if b = true then (mOp m e).bind (suK j d) else .no
theorem z_Sub : gSub j m (.val d) e = suB j m d e (isL (lookAt e[j]?)) := id rfl
theorem z_suB : suB j m d e true = (mOp m e).bind (suK j d) := id rfl
theorem z_suK : suK j d r e = setA j d e[j]? (look r e) e := id rfl
theorem z_saO {xs : List Da} {n : Int} : setA j d (some (.own xs)) (some (.int n)) e = setL j .own d xs (ixN xs.length n) e := id rfl
theorem z_saI {xs : List Da} {n : Int} : setA j d (some (.io xs)) (some (.int n)) e = setL j .io d xs (ixN xs.length n) e := id rfl
theorem z_sl {mk : List Da → Sl} {xs : List Da} {k : Nat} : setL j mk d xs (some k) e = .ok () (e.set j (mk (xs.set k d))) := id rfl
def paK2 (i j : Nat) (r1 r2 : Sl) (e : VE) : Out Fl := if i < e.length ∧ j < e.length ∧ notPk r2 = true then .ok .nx ((e.set i r1).set j r2) else .no
def paB (i j : Nat) (mb : ME) (r1 : Sl) (e : VE) (b : Bool) : Out Fl := if b = true then (mb e).bind (paK2 i j r1) else .no
def paK (i j : Nat) (mb : ME) (r1 : Sl) (e : VE) : Out Fl := paB i j mb r1 e (keptS r1)
theorem z_Par : sPar i j ma mb e = (ma e).bind (paK i j mb) := id rfl
theorem z_paK : paK i j mb r1 e = paB i j mb r1 e (keptS r1) := id rfl
theorem z_paB : paB i j mb r1 e true = (mb e).bind (paK2 i j r1) := id rfl
theorem z_paK2 : paK2 i j r1 r2 e = if i < e.length ∧ j < e.length ∧ notPk r2 = true then .ok .nx ((e.set i r1).set j r2) else .no := id rfl
theorem z_kpV : keptS (.val d) = true := id rfl
theorem z_kpO {xs : List Da} : keptS (.own xs) = true := id rfl
theorem z_DPut : sDPut j ma mb e = (mOp mb e).bind (putV j ma) := id rfl
def puK (j : Nat) (d : Da) (r : Sl) (e : VE) : Out Fl := putM j d e[j]? (look r e) e
def puB (j : Nat) (mi : ME) (d : Da) (e : VE) (b : Bool) : Out Fl := if b = true then (mOp mi e).bind (puK j d) else .no
theorem z_putV : putV j m (.val d) e = puB j m d e (isO e[j]?) := id rfl
theorem z_puB : puB j m d e true = (mOp m e).bind (puK j d) := id rfl
theorem z_puK : puK j d r e = putM j d e[j]? (look r e) e := id rfl
theorem z_isO {xs : List (Key × Da)} : isO (some (.odk xs)) = true := id rfl
theorem z_putM {xs : List (Key × Da)} {n : Int} : putM j d (some (.odk xs)) (some (.int n)) e = if xs.length < sizeLine then .ok .nx (e.set j (.odk (putD xs (.inl n) d))) else .no := id rfl
theorem z_For : sFor mi g s e = (mi e).bind (forL (turnF g s)) := id rfl
def tnK (s : MS) (_ : Unit) (e : VE) : Out Fl := s e
theorem z_Turn : turnF g s x e = (g (.val x) e).bind (tnK s) := id rfl
theorem z_tnK {u : Unit} : tnK s u e = s e := id rfl
def grK (i j : Nat) (xs : List Da) (e : VE) : Out Fl := grpM i j (grp xs []) e[i]? e
theorem z_Group : sGroup i j mi e = (mi e).bind (grK i j) := id rfl
theorem z_grK {xs : List Da} : grK i j xs e = grpM i j (grp xs []) e[i]? e := id rfl
def coK (ct : CT) (t : MT) (m : ME) (vs : List Nat) (xs : List Da) (e : VE) : Out Sl := compL ct t m vs xs [] e
theorem z_Comp {ct : CT} {vs : List Nat} : mComp mi ct t m vs e = (mi e).bind (coK ct t m vs) := id rfl
theorem z_coK {ct : CT} {vs : List Nat} {xs : List Da} : coK ct t m vs xs e = compL ct t m vs xs [] e := id rfl
theorem z_Tu {n : Nat} {gs : List MG} {ds : List Da} : gTuN n gs (.val (.tuple ds)) e = if ds.length = n then gGo gs ds e else .no := id rfl
def goK (gs : List MG) (ds : List Da) (_ : Unit) (e : VE) : Out Unit := gGo gs ds e
theorem z_go0 : gGo [] [] e = .ok () e := id rfl
theorem z_go {gs : List MG} {ds : List Da} : gGo (g :: gs) (d :: ds) e = (g (.val d) e).bind (goK gs ds) := id rfl
theorem z_goK {gs : List MG} {ds : List Da} {u : Unit} : goK gs ds u e = gGo gs ds e := id rfl
def clB (fn : Fn) (rs : List Sl) (e : VE) (b : Bool) : Out Sl := if b = true then callE fn rs e (argsOf e rs) else .no
def clK (fn : Fn) (rs : List Sl) (e : VE) : Out Sl := clB fn rs e (onePk rs)
theorem z_mCall {fn : Fn} : mCall fn mA e = (mA e).bind (clK fn) := id rfl
theorem z_clK {fn : Fn} : clK fn rs e = clB fn rs e (onePk rs) := id rfl
theorem z_clB {fn : Fn} : clB fn rs e true = callE fn rs e (argsOf e rs) := id rfl
theorem z_callE {fn : Fn} {as : List Sl} : callE fn rs e (some as) = retE e (ioSlot rs) (fn as) := id rfl
theorem z_retN : retE e none (.ok r none) = .ok r e := id rfl
theorem z_retI {xs : List Da} : retE e (some i) (.ok r (some xs)) = putIo i xs r e e[i]? := id rfl
theorem z_putO {xs ys : List Da} : putIo i xs r e (some (.own ys)) = .ok r (e.set i (.own xs)) := id rfl
theorem z_putI {xs ys : List Da} : putIo i xs r e (some (.io ys)) = .ok r (e.set i (.io xs)) := id rfl
theorem z_yes : yesT e = .ok true e := id rfl
theorem z_vV : mVarAt i e (some (.val d)) = .ok (.val d) e := id rfl
theorem z_vO {xs : List Da} : mVarAt i e (some (.own xs)) = .ok (.val (.list xs)) (e.set i (.val (.list xs))) := id rfl
theorem z_vS {ns : List Int} : mVarAt i e (some (.scr ns)) = .ok (.scr ns) e := id rfl
theorem z_tV : takeAt i e (some (.val d)) = .ok (.val d) e := id rfl
theorem z_tO {xs : List Da} : takeAt i e (some (.own xs)) = .ok (.own xs) (e.set i .no) := id rfl
theorem z_tK {xs : List (Key × Da)} : takeAt i e (some (.odk xs)) = .ok (.odk xs) (e.set i .no) := id rfl
theorem z_vals0 : valsOf [] = some [] := id rfl
theorem z_vals : valsOf (.val d :: rs) = lkK (some d) (valsOf rs) := by
  show (match valsOf rs with
    | some ds => some (d :: ds)
    | none => none) = _
  unfold lkK
  cases valsOf rs <;> rfl
theorem z_dispL {ds : List Da} : dispL (some ds) e = if ds.length ≤ sizeLine then .ok (.own ds) e else .no := id rfl
theorem z_dispT {ds : List Da} : dispT (some ds) e = if ds.length ≤ sizeLine then .ok (.val (.tuple ds)) e else .no := id rfl
theorem z_ar1 {f : Da → Option Sl} : ar1 f [d] = f d := id rfl
theorem z_ar2 {f : Da → Da → Option Sl} {d' : Da} : ar2 f [d, d'] = f d d' := id rfl
theorem z_slice {l u : Option Int} : sliceM l u (some d) e = VL.ret (fSl d l u) e := id rfl
theorem z_dget {dv : DV} : dgetM (some dv) (some d) e = gotD (dv.get d) e := id rfl
theorem z_gotD : gotD (some (some d)) e = .ok (.val d) e := id rfl
theorem z_din {neg : Bool} {dv : DV} : dinM neg (some dv) (some d) e = gotIn neg (dv.get d) e := id rfl
theorem z_gotIn {neg : Bool} {o : Option Da} : gotIn neg (some o) e = .ok (.val (.bool (neg ^^ o.isSome))) e := id rfl
theorem z_lookD : lookD (.pk i) e = lookDAt e[i]? := id rfl
theorem z_lookDK {kvs : List (Key × Da)} : lookDAt (some (.odk kvs)) = some (.k kvs) := id rfl
theorem z_dvget {kvs : List (Key × Da)} {n : Int} : (DV.k kvs).get (.int n) = some (valD kvs (.inl n)) := id rfl
theorem z_one0 : onePk [] = true := id rfl
theorem z_oneP : onePk (.pk i :: rs) = rs.all fun s => notPk s := id rfl
theorem z_oneV : onePk (.val d :: rs) = onePk rs := id rfl
theorem z_oneS {ns : List Int} : onePk (.scr ns :: rs) = onePk rs := id rfl
def agK : Option Sl → Option (List Sl) → Option (List Sl)
  | some s, some ss => some (s :: ss)
  | _, _ => none
theorem z_args0 : argsOf e [] = some [] := id rfl
theorem z_args : argsOf e (r :: rs) = agK (argOf e r) (argsOf e rs) := by
  show (match argOf e r, argsOf e rs with
    | some s, some ss => some (s :: ss)
    | _, _ => none) = _
  unfold agK
  cases argOf e r <;> cases argsOf e rs <;> rfl
theorem z_agK : agK (some r) (some rs) = some (r :: rs) := id rfl
theorem z_argV : argOf e (.val d) = some (.val d) := id rfl
theorem z_argS {ns : List Int} : argOf e (.scr ns) = some (.scr ns) := id rfl
def apK : Option Sl → Option Sl
  | some (.own xs) => some (.io xs)
  | some (.io xs) => some (.io xs)
  | _ => none
theorem z_argP : argOf e (.pk i) = apK e[i]? := by
  simp only [argOf]
  cases e[i]? with
  | none => rfl
  | some t => cases t <;> rfl
theorem z_apO {xs : List Da} : apK (some (.own xs)) = some (.io xs) := id rfl
theorem z_apI {xs : List Da} : apK (some (.io xs)) = some (.io xs) := id rfl
theorem z_io0 : ioSlot [] = none := id rfl
theorem z_ioP : ioSlot (.pk i :: rs) = some i := id rfl
theorem z_ioV : ioSlot (.val d :: rs) = ioSlot rs := id rfl
theorem z_ioS {ns : List Int} : ioSlot (.scr ns :: rs) = ioSlot rs := id rfl
theorem z_lenL {xs : List Da} : fLen (.list xs) = some (.val (.int xs.length)) := id rfl
theorem z_lenT {xs : List Da} : fLen (.tuple xs) = some (.val (.int xs.length)) := id rfl
theorem z_abs {n : Int} : fAbs (.int n) = some (.val (.int (if n < 0 then -n else n))) := id rfl
theorem z_int {n : Int} : fInt (.int n) = some (.val (.int n)) := id rfl
theorem z_intB {b : Bool} : fInt (.bool b) = some (.val (.int (if b then 1 else 0))) := id rfl
theorem z_rg1 {f : Int → Int → Option Sl} {n : Int} : rg1 f (.int n) = f 0 n := id rfl
theorem z_rg2 {f : Int → Int → Option Sl} {n k : Int} : rg2 f (.int n) (.int k) = f n k := id rfl
theorem z_tupL {xs : List Da} : fTuple (.list xs) = some (.val (.tuple xs)) := id rfl
theorem z_tupT {xs : List Da} : fTuple (.tuple xs) = some (.val (.tuple xs)) := id rfl
theorem z_lisL {xs : List Da} : fList (.list xs) = some (.own xs) := id rfl
theorem z_lisT {xs : List Da} : fList (.tuple xs) = some (.own xs) := id rfl
theorem z_augE {f : Da → Da → Option Sl} {x y : Da} : augE i f (some (.val x)) (some y) e = if i < e.length then augF i (f x y) e else .no := id rfl
theorem z_augF : augF i (some (.val d)) e = .ok .nx (e.set i (.val d)) := id rfl
theorem z_rtV : takeAt i e (some (.scr [])) = .ok (.scr []) e := id rfl
theorem z_aug {f : Da → Da → Option Sl} {d0 : Da} {e : VE} (h : lookAt e[i]? = some d0) : sAug i f m e = (mOp m e).bind fun r e => augE i f e[i]? (look r e) e := by
  unfold sAug
  rw [h]
end
/-! the operators at their kinds -/
theorem y_addI {x y : Int} : fAdd (.int x) (.int y) = some (.val (.int (x + y))) := id rfl
theorem y_addL {x y : List Da} (h : x.length + y.length ≤ sizeLine) : fAdd (.list x) (.list y) = some (.own (x ++ y)) := by
  have e : fCatL (.list x) (.list y) = some (.own (x ++ y)) := if_pos h
  show (none : Option Sl).or ((fCatL (.list x) (.list y)).or _) = _
  rw [e]
  rfl
theorem y_addT {x y : List Da} (h : x.length + y.length ≤ sizeLine) : fAdd (.tuple x) (.tuple y) = some (.val (.tuple (x ++ y))) := by
  have e : fCatT (.tuple x) (.tuple y) = some (.val (.tuple (x ++ y))) := if_pos h
  show (none : Option Sl).or ((none : Option Sl).or ((fCatT (.tuple x) (.tuple y)).or _)) = _
  rw [e]
  rfl
theorem y_sub {x y : Int} : fSub (.int x) (.int y) = some (.val (.int (x - y))) := id rfl
theorem y_mul {x y : Int} (h : CMul x y) : fMul (.int x) (.int y) = some (.val (.int (x * y))) := by
  unfold fMul fMulI iI
  simp only [h, if_true]
  rfl
theorem y_mulI {x y : Int} (h : CMul x y) : fMulI (.int x) (.int y) = some (.val (.int (x * y))) := by
  unfold fMulI iI
  simp only [h, if_true]
theorem y_mod {x y : Int} (h : 0 < y) : fMod (.int x) (.int y) = some (.val (.int (x % y))) := by
  unfold fMod iI
  simp only [h, if_true]
theorem y_div {x y : Int} (h : CDiv x y) : fFdiv (.int x) (.int y) = some (.val (.int (x / y))) := by
  unfold fFdiv iI
  simp only [h, if_true]
theorem y_lt {x y : Int} : fLt (.int x) (.int y) = some (.val (.bool (decide (x < y)))) := id rfl
theorem y_gt {x y : Int} : fGt (.int x) (.int y) = some (.val (.bool (decide (y < x)))) := id rfl
theorem y_le {x y : Int} : fLe (.int x) (.int y) = some (.val (.bool (decide (x ≤ y)))) := id rfl
theorem y_ge {x y : Int} : fGe (.int x) (.int y) = some (.val (.bool (decide (y ≤ x)))) := id rfl
theorem y_neg {x : Int} : fNeg (.int x) = some (.val (.int (-x))) := id rfl
theorem sh_int {i : Int} : SeqAt.shaped (.int i) = true := rfl
theorem y_eqI {x y : Int} : fEq (.int x) (.int y) = some (.val (.bool (decide (x = y)))) := by
  have e : PyData.eqv (.int x) (.int y) = decide (x = y) := by rw [PyData.eqv]; rfl
  unfold fEq
  rw [if_pos ⟨sh_int, sh_int⟩, e]
theorem y_neI {x y : Int} : fNe (.int x) (.int y) = some (.val (.bool (!decide (x = y)))) := by
  have e : PyData.eqv (.int x) (.int y) = decide (x = y) := by rw [PyData.eqv]; rfl
  unfold fNe
  rw [if_pos ⟨sh_int, sh_int⟩, e]
theorem y_min2 {x y : Int} : fMin2 (.int x) (.int y) = some (.val (.int (if y < x then y else x))) := id rfl
theorem y_max2 {x y : Int} : fMax2 (.int x) (.int y) = some (.val (.int (if y > x then y else x))) := id rfl
theorem atI_at {α : Type} {xs : List α} {i : Int} {d : α} (h0 : 0 ≤ i) (h : xs[i.toNat]? = some d) : atI xs i = some d := by
  have hl := (List.getElem?_eq_some_iff.mp h).1
  unfold atI ixN
  rw [if_pos h0, if_pos (by omega)]
  exact h
theorem atI_neg {α : Type} {xs : List α} {i : Int} {d : α} (h0 : i < 0) (h1 : -(xs.length : Int) ≤ i) (h : xs[(i + xs.length).toNat]? = some d) : atI xs i = some d := by
  unfold atI ixN
  rw [if_neg (by omega), if_pos h1]
  exact h
theorem y_ixL {xs : List Da} {i : Int} {d : Da} (h : atI xs i = some d) : fIx (.list xs) (.int i) = some (.val d) := by
  unfold fIx
  simp only [h]
theorem y_ixT {xs : List Da} {i : Int} {d : Da} (h : atI xs i = some d) : fIx (.tuple xs) (.int i) = some (.val d) := by
  unfold fIx
  simp only [h]
/-! loops -/
def flP (nx : VE → Prop) (Q : Fl → VE → Prop) : Fl → VE → Prop
  | .nx, e => nx e
  | .ct, e => nx e
  | .bk, e => Q .nx e
  | .rt r, e => Q (.rt r) e
@[irreducible] def WP {α : Type} (o : Out α) (p : α → VE → Prop) : Prop := o.P p fun _ => False
@[irreducible] def WF (o : OutF) (p : Sl → Option (List Da) → Prop) : Prop := o.P p fun _ => False
theorem z_wpO {α : Type} {a : α} {e : VE} {p : α → VE → Prop} : WP (.ok a e) p = p a e := by unfold WP; rfl
theorem z_wpB {α β : Type} {o : Out α} {f : α → VE → Out β} {p : β → VE → Prop} : WP (o.bind f) p = WP o (fun a e => WP (f a e) p) := by
  unfold WP
  rw [P_bind]
theorem wp_mono {α : Type} {o : Out α} {p p' : α → VE → Prop} (h : WP o p) (hp : ∀ a e, o = .ok a e → p a e → p' a e) : WP o p' := by
  unfold WP at *
  exact P_mono h hp fun _ z => z
theorem forK_P {k : VE → Out Fl} {fl : Fl} {e : VE} {Q : Fl → VE → Prop} {nx : VE → Prop} (h : flP nx Q fl e) (hk : nx e → WP (k e) Q) : WP (forK k fl e) Q := by
  cases fl with
  | nx => exact hk h
  | ct => exact hk h
  | bk => show WP (.ok .nx e) Q; rw [z_wpO]; exact h
  | rt r => show WP (.ok (.rt r) e) Q; rw [z_wpO]; exact h
theorem forL_P {f : Da → VE → Out Fl} {xs : List Da} {Q : Fl → VE → Prop} (I : Nat → VE → Prop) (step : ∀ i d e, xs[i]? = some d → I i e → WP (f d e) (flP (I (i + 1)) Q)) (hend : ∀ e, I xs.length e → Q .nx e) {e : VE} (h0 : I 0 e) : WP (forL f xs e) Q := by
  have key : ∀ n i e, i + n = xs.length → I i e → WP (forL f (xs.drop i) e) Q := fun n => by
    induction n with
    | zero =>
      intro i e hi hI
      rw [List.drop_eq_nil_of_le (by omega)]
      have : i = xs.length := by omega
      subst this
      show WP (.ok .nx e) Q
      rw [z_wpO]
      exact hend e hI
    | succ n ih =>
      intro i e hi hI
      have hlt : i < xs.length := by omega
      have hd : xs[i]? = some xs[i] := List.getElem?_eq_getElem hlt
      rw [drop_cons hd]
      show WP ((f xs[i] e).bind (forK (forL f (xs.drop (i + 1))))) Q
      rw [z_wpB]
      exact wp_mono (step i _ e hd hI) fun fl e2 _ h => forK_P h fun h2 => ih (i + 1) e2 (by omega) h2
  have := key xs.length 0 e (by omega) h0
  rwa [List.drop_zero] at this
theorem whileN_P {t : MT} {b : MS} {Q : Fl → VE → Prop} (I : Nat → VE → Prop)
    (step : ∀ m e, I m e → ∃ c e1, t e = .ok c e1 ∧ (c = true → WP (b e1) (flP (fun e2 => ∃ m', m' < m ∧ I m' e2) Q)) ∧ (c = false → Q .nx e1)) : ∀ (n m : Nat) (e : VE), m < n → I m e → WP (whileN t b n e) Q
  | 0, m, e, h, _ => absurd h (Nat.not_lt_zero _)
  | n + 1, m, e, h, hI => by
    obtain ⟨c, e1, h1, h2, h3⟩ := step m e hI
    show WP ((t e).bind fun c e1 => if c = true then (b e1).bind (forK (whileN t b n)) else .ok .nx e1) Q
    rw [h1]
    show WP (if c = true then (b e1).bind (forK (whileN t b n)) else .ok .nx e1) Q
    cases c with
    | true =>
      rw [if_pos rfl, z_wpB]
      exact wp_mono (h2 rfl) fun fl e2 _ h4 => forK_P h4 fun ⟨m', h5, h6⟩ => whileN_P I step n m' e2 (by omega) h6
    | false =>
      rw [if_neg Bool.false_ne_true, z_wpO]
      exact h3 rfl
theorem while_P {t : MT} {b : MS} {Q : Fl → VE → Prop} (I : Nat → VE → Prop) {m : Nat} {e : VE} (hm : m < 1000000000) (h0 : I m e)
    (step : ∀ m e, I m e → ∃ c e1, t e = .ok c e1 ∧ (c = true → WP (b e1) (flP (fun e2 => ∃ m', m' < m ∧ I m' e2) Q)) ∧ (c = false → Q .nx e1)) : WP (sWhile t b e) Q :=
  whileN_P I step big m e (Nat.lt_trans hm (by rw [big_eq]; decide)) h0
def retP (args : List Sl) (p : Sl → Option (List Da) → Prop) : Fl → VE → Prop
  | .rt (.pk _), _ => False
  | .rt r, e => (ioOut r e (ioPos args)).P p fun _ => False
  | .nx, e => (ioOut (.val .none) e (ioPos args)).P p fun _ => False
  | _, _ => False
theorem body_P {np n : Nat} {ms : MS} {args : List Sl} {p : Sl → Option (List Da) → Prop} (h1 : args.length = np) (h2 : one_io args = true) (h : WP (ms (args ++ List.replicate (n - np) .no)) (retP args p)) : WF (bodyF np n ms args) p := by
  unfold WF bodyF
  rw [if_pos ⟨h1, h2⟩]
  unfold WP at h
  cases g : ms (args ++ List.replicate (n - np) .no) with
  | no => rw [g] at h; exact h.elim
  | exc d => rw [g] at h; exact h.elim
  | ok fl e =>
    rw [g] at h
    cases fl with
    | rt r => cases r <;> first | exact h.elim | exact h
    | nx => exact h
    | bk => exact h.elim
    | ct => exact h.elim
theorem ok_of_P {o : OutF} {p : Sl → Option (List Da) → Prop} (h : WF o p) : ∃ r io, o = .ok r io ∧ p r io := by
  unfold WF at h
  cases o with
  | ok r io => exact ⟨r, io, rfl, h⟩
  | exc d => exact h.elim
  | no => exact h.elim
/-- a comprehension whose elements are worked out one by one, nothing else changed -/
theorem comp_all {ct : CT} {t : MT} {m : ME} {vs : List Nat} {env : VE} (hf : freeAt env vs = true) (g : Da → Da) :
    ∀ (xs acc : List Da), acc.length + xs.length ≤ sizeLine → (∀ d ∈ xs, ∃ e1 e2 e3, bindCT ct d (wipeE env vs) = some e1 ∧ t e1 = .ok true e2 ∧ mOp m e2 = .ok (.val (g d)) e3 ∧ restE e3 env vs = env) → compL ct t m vs xs acc env = .ok (.own (acc ++ xs.map g)) env
  | [], acc, _, _ => by rw [List.map_nil, List.append_nil]; rfl
  | d :: xs, acc, hl, h => by
    obtain ⟨e1, e2, e3, h1, h2, h3, h4⟩ := h d List.mem_cons_self
    show (if freeAt env vs = true then compTurn ct t m vs (compL ct t m vs xs) acc env (bindCT ct d (wipeE env vs)) else .no) = _
    rw [if_pos hf, h1]
    show ((noX (t e1)).bind fun b e2 => if b = true then (noX (mOp m e2)).bind fun r e3 => compStep (compL ct t m vs xs) acc r (restE e3 env vs) else compL ct t m vs xs acc (restE e2 env vs)) = _
    rw [h2]
    show (if true = true then (noX (mOp m e2)).bind fun r e3 => compStep (compL ct t m vs xs) acc r (restE e3 env vs) else compL ct t m vs xs acc (restE e2 env vs)) = _
    rw [if_pos rfl, h3]
    show compStep (compL ct t m vs xs) acc (.val (g d)) (restE e3 env vs) = _
    rw [h4]
    show (if acc.length < sizeLine then compL ct t m vs xs (acc ++ [g d]) env else .no) = _
    rw [List.length_cons] at hl
    rw [if_pos (by omega), comp_all hf g xs (acc ++ [g d]) (by rw [List.length_append, List.length_singleton]; omega) fun d' m' => h d' (List.mem_cons_of_mem _ m'), List.map_cons, List.append_assoc]
    rfl
end VL
namespace VL
open PySem PyProof.Rows L2
/-! ### lists of natural numbers as data -/
def dI (x : Nat) : Da := .int (x : Int)
def dn (p : List Nat) : List Da := p.map dI
theorem sz : sizeLine = 16777216 := by decide
@[simp] theorem dn_len {p : List Nat} : (dn p).length = p.length := by unfold dn; rw [List.length_map]
theorem dn_at {p : List Nat} {i : Nat} (h : i < p.length) : (dn p)[i]? = some (dI (p.getD i 0)) := by
  unfold dn
  rw [List.getElem?_map, List.getElem?_eq_getElem h, List.getD_eq_getElem?_getD, List.getElem?_eq_getElem h]
  rfl
theorem ixL {p : List Nat} {i : Int} {j : Nat} (e : i = j) (h : j < p.length) : fIx (.list (dn p)) (.int i) = some (.val (dI (p.getD j 0))) := y_ixL (atI_at (by omega) (by rw [e, Int.toNat_natCast]; exact dn_at h))
theorem ixT {p : List Nat} {i : Int} {j : Nat} (e : i = j) (h : j < p.length) : fIx (.tuple (dn p)) (.int i) = some (.val (dI (p.getD j 0))) := y_ixT (atI_at (by omega) (by rw [e, Int.toNat_natCast]; exact dn_at h))
theorem ixLneg {p : List Nat} {i : Int} {j : Nat} (h0 : i < 0) (e : i + p.length = j) (h : j < p.length) : fIx (.list (dn p)) (.int i) = some (.val (dI (p.getD j 0))) :=
  y_ixL (atI_neg h0 (by rw [dn_len]; omega) (by rw [dn_len, e, Int.toNat_natCast]; exact dn_at h))
theorem ixN_nat {n : Nat} {i : Int} {j : Nat} (e : i = j) (h : j < n) : ixN n i = some j := by
  subst e
  unfold ixN
  rw [if_pos (by omega), if_pos (by omega), Int.toNat_natCast]
theorem dn_set {p : List Nat} {i v : Nat} : (dn p).set i (dI v) = dn (p.set i v) := by unfold dn; rw [List.map_set]
theorem dn_setI {p : List Nat} {i v : Nat} : (dn p).set i (.int (v : Int)) = dn (p.set i v) := dn_set
theorem dn_app {p q : List Nat} : dn p ++ dn q = dn (p ++ q) := by unfold dn; rw [List.map_append]
theorem dn_one {v : Nat} : [dI v] = dn [v] := rfl
theorem dn_erase {p : List Nat} {i : Nat} : (dn p).eraseIdx i = dn (p.eraseIdx i) := by
  unfold dn
  induction p generalizing i with
  | nil => rfl
  | cons x p ih => cases i with
    | zero => rfl
    | succ i => rw [List.map_cons, List.eraseIdx_cons_succ, List.eraseIdx_cons_succ, List.map_cons, ih]
theorem rg_dn {n : Nat} {i : Int} (e : i = n) : rgD 0 i = dn (List.range n) := by
  subst e
  unfold rgD dn
  rw [Int.sub_zero, Int.toNat_natCast]
  exact List.map_congr_left fun k _ => by show PyData.int (0 + (k : Int)) = PyData.int (k : Int); rw [Int.zero_add]
theorem eqv_dn : ∀ {p q : List Nat}, PyData.eqvAll (dn p) (dn q) = decide (p = q)
  | [], [] => by show PyData.eqvAll [] [] = _; rw [PyData.eqvAll]; rfl
  | [], y :: q => by show PyData.eqvAll [] (dI y :: dn q) = _; rw [PyData.eqvAll]; rfl
  | x :: p, [] => by show PyData.eqvAll (dI x :: dn p) [] = _; rw [PyData.eqvAll]; rfl
  | x :: p, y :: q => by
    show PyData.eqvAll (dI x :: dn p) (dI y :: dn q) = _
    rw [PyData.eqvAll, eqv_dn (p := p) (q := q)]
    show (PyData.eqv (.int x) (.int y) && _) = _
    rw [PyData.eqv]
    by_cases h : x = y
    · subst h
      by_cases h2 : p = q
      · subst h2; simp
      · simp [h2]
    · have : ((x : Int) == (y : Int)) = false := by simp; omega
      rw [this]
      simp [h]
theorem lay_dn : ∀ {p : List Nat}, PyData.canLayAll0 (dn p) = true
  | [] => by show PyData.canLayAll0 [] = true; rw [PyData.canLayAll0]
  | x :: p => by
    show PyData.canLayAll0 (dI x :: dn p) = true
    rw [PyData.canLayAll0, lay_dn (p := p)]
    show (PyData.canLay0 (.int x) && true) = true
    rw [PyData.canLay0]
    rfl
theorem dep_dn : ∀ {p : List Nat}, PyData.depthAll (dn p) = 0
  | [] => by show PyData.depthAll [] = 0; rw [PyData.depthAll]
  | x :: p => by
    show PyData.depthAll (dI x :: dn p) = 0
    rw [PyData.depthAll, dep_dn (p := p)]
    show max (PyData.depth (.int x)) 0 = 0
    rw [PyData.depth]
    rfl
theorem shL {p : List Nat} : SeqAt.shaped (.list (dn p)) = true := by
  unfold SeqAt.shaped
  rw [PyData.canLay0, lay_dn, PyData.depth, dep_dn]
  rfl
theorem shT {p : List Nat} : SeqAt.shaped (.tuple (dn p)) = true := by
  unfold SeqAt.shaped
  rw [PyData.canLay0, lay_dn, PyData.depth, dep_dn]
  rfl
theorem eqT {p q : List Nat} : fEq (.tuple (dn p)) (.tuple (dn q)) = some (.val (.bool (decide (p = q)))) := by
  unfold fEq
  rw [if_pos ⟨shT, shT⟩, PyData.eqv, eqv_dn]
theorem neT {p q : List Nat} : fNe (.tuple (dn p)) (.tuple (dn q)) = some (.val (.bool (!decide (p = q)))) := by
  unfold fNe
  rw [if_pos ⟨shT, shT⟩, PyData.eqv, eqv_dn]
theorem eqL {p q : List Nat} : fEq (.list (dn p)) (.list (dn q)) = some (.val (.bool (decide (p = q)))) := by
  unfold fEq
  rw [if_pos ⟨shL, shL⟩, PyData.eqv, eqv_dn]
theorem neL {p q : List Nat} : fNe (.list (dn p)) (.list (dn q)) = some (.val (.bool (!decide (p = q)))) := by
  unfold fNe
  rw [if_pos ⟨shL, shL⟩, PyData.eqv, eqv_dn]
theorem neL0 {p : List Nat} : fNe (.list (dn p)) (.list []) = some (.val (.bool (!decide (p = [])))) := neL (q := [])
theorem rgL {n : Nat} {i : Int} (e : i = n) (h : n ≤ 1000000) : fRgL 0 i = some (.own (dn (List.range n))) := by
  unfold fRgL
  rw [if_pos (by unfold RgOk; omega), rg_dn e]
theorem rgT {n : Nat} {i : Int} (e : i = n) (h : n ≤ 1000000) : fRgT 0 i = some (.val (.tuple (dn (List.range n)))) := by
  unfold fRgT
  rw [if_pos (by unfold RgOk; omega), rg_dn e]
theorem rgIt {n : Nat} {i : Int} {e : VE} (h1 : i = n) (h : n ≤ 1000000) : rgI 0 i e = .ok (dn (List.range n)) e := by
  unfold rgI
  rw [if_pos (by omega), rg_dn h1]
theorem popD {p : List Nat} {i : Int} {j : Nat} (e : i = j) (h : j < p.length) (hs : p.length ≤ 1000000) : fPop (dn p) [.int i] = some (dI (p.getD j 0), dn (p.eraseIdx j)) := by
  show popAt (dn p) i = _
  unfold popAt
  rw [if_pos (by omega), dn_len, ixN_nat e h]
  unfold popIx
  simp only [dn_at h, dn_erase]
theorem appD {p : List Da} {d : Da} (h : p.length ≤ 1000000) : fAppend p [d] = some (.none, p ++ [d]) := if_pos (by rw [sz]; omega)
theorem getD_set {p : List Nat} {i j v : Nat} : (p.set i v).getD j 0 = if i = j ∧ i < p.length then v else p.getD j 0 := by
  rw [List.getD_eq_getElem?_getD, List.getElem?_set, List.getD_eq_getElem?_getD]
  by_cases h : i = j
  · subst h
    by_cases h2 : i < p.length
    · simp [h2]
    · simp [h2]
  · simp [h]
theorem getD_mem {p : List Nat} {i : Nat} (h : i < p.length) : p.getD i 0 ∈ p := by
  rw [List.getD_eq_getElem?_getD, List.getElem?_eq_getElem h]
  exact List.getElem_mem h
theorem map_getD {p : List Nat} : (List.range p.length).map (fun x => p.getD x 0) = p := by
  refine List.ext_getElem (by simp) fun i h1 h2 => ?_
  rw [List.getElem_map, List.getElem_range, List.getD_eq_getElem?_getD, List.getElem?_eq_getElem h2]
  rfl
theorem minN {a b : Nat} : fMin2 (.int (a : Int)) (.int (b : Int)) = some (.val (.int ((min a b : Nat) : Int))) := by
  rw [y_min2]
  congr 3
  by_cases h : b < a
  · rw [if_pos (by omega), Nat.min_eq_right (by omega)]
  · rw [if_neg (by omega), Nat.min_eq_left (by omega)]
theorem appN {p : List Nat} {x : Nat} (h : p.length ≤ 1000000) : fAppend (dn p) [dI x] = some (.none, dn (p ++ [x])) := by rw [appD (by rw [dn_len]; exact h), dn_one, dn_app]
theorem sIxN {n : Nat} {d : Nat} {i : Nat} (h : i ≤ n) : HT.sIx n d (some (i : Int)) = i := by
  unfold HT.sIx
  simp only []
  split <;> omega
theorem slN {p : List Nat} {i j : Nat} (h : i ≤ j) (hj : j ≤ p.length) : fSl (.list (dn p)) (some (i : Int)) (some (j : Int)) = some (.own (dn ((p.drop i).take (j - i)))) := by
  show some (Sl.own (cutD (dn p) _ _)) = _
  unfold cutD
  rw [dn_len, HT.sIx_nat, HT.sIx_nat, Nat.min_eq_left hj, Nat.min_eq_left (by omega)]
  unfold dn
  rw [← List.map_drop, ← List.map_take]
theorem getD_take {p : List Nat} {k i : Nat} (h : i < k) : (p.take k).getD i 0 = p.getD i 0 := by
  rw [List.getD_eq_getElem?_getD, List.getElem?_take, if_pos h, ← List.getD_eq_getElem?_getD]
theorem getD_drop {p : List Nat} {k i : Nat} : (p.drop k).getD i 0 = p.getD (k + i) 0 := by
  rw [List.getD_eq_getElem?_getD, List.getElem?_drop, ← List.getD_eq_getElem?_getD]
theorem getD_inj {p : List Nat} (h : p.Nodup) {i j : Nat} (hi : i < p.length) (hj : j < p.length) (e : p.getD i 0 = p.getD j 0) : i = j := by
  rw [List.getD_eq_getElem?_getD, List.getElem?_eq_getElem hi, List.getD_eq_getElem?_getD, List.getElem?_eq_getElem hj] at e
  have q := List.pairwise_iff_getElem.mp h
  rcases Nat.lt_trichotomy i j with l | l | l
  · exact absurd e (q i j hi hj l)
  · exact l
  · exact absurd e.symm (q j i hj hi l)
theorem mem_getD {p : List Nat} {x : Nat} (h : x ∈ p) : ∃ i, i < p.length ∧ p.getD i 0 = x := by
  obtain ⟨i, hi, e⟩ := List.mem_iff_getElem.mp h
  exact ⟨i, hi, by rw [List.getD_eq_getElem?_getD, List.getElem?_eq_getElem hi]; exact e⟩
theorem ext_getD {p q : List Nat} (hl : p.length = q.length) (h : ∀ i, i < p.length → p.getD i 0 = q.getD i 0) : p = q := by
  refine List.ext_getElem hl fun i h1 h2 => ?_
  have := h i h1
  rw [List.getD_eq_getElem?_getD, List.getElem?_eq_getElem h1, List.getD_eq_getElem?_getD, List.getElem?_eq_getElem h2] at this
  exact this
theorem getD_map {p : List Nat} {f : Nat → Nat} {i : Nat} (h : i < p.length) : (p.map f).getD i 0 = f (p.getD i 0) := by
  rw [List.getD_eq_getElem?_getD, List.getElem?_map, List.getElem?_eq_getElem h, List.getD_eq_getElem?_getD, List.getElem?_eq_getElem h]
  rfl
theorem erase_perm : ∀ {p : List Nat} {i : Nat}, i < p.length → (p.getD i 0 :: p.eraseIdx i).Perm p
  | [], i, h => absurd h (Nat.not_lt_zero _)
  | x :: p, 0, _ => List.Perm.refl _
  | x :: p, i + 1, h => by
    have ih := erase_perm (p := p) (i := i) (by simpa using h)
    rw [List.eraseIdx_cons_succ, List.getD_cons_succ]
    exact (List.Perm.swap x (p.getD i 0) (p.eraseIdx i)).trans (.cons x ih)
end VL
namespace VP
open PySem VL L2
/-! ### the law's draws -/
def dr (cells : List Int) (at' cur seed : Int) : List Da := [.list (cells.map PyData.int), .int at', .int cur, .int seed]
theorem ix0 {a b c d : Da} : fIx (.list [a, b, c, d]) (.int 0) = some (.val a) := rfl
theorem ix1 {a b c d : Da} : fIx (.list [a, b, c, d]) (.int 1) = some (.val b) := rfl
theorem ix2 {a b c d : Da} : fIx (.list [a, b, c, d]) (.int 2) = some (.val c) := rfl
theorem ix3 {a b c d : Da} : fIx (.list [a, b, c, d]) (.int 3) = some (.val d) := rfl
theorem n1 : ixN 4 1 = some 1 := rfl
theorem n2 : ixN 4 2 = some 2 := rfl
theorem n3 : ixN 4 3 = some 3 := rfl
structure DrawOk (ds : List Da) : Prop where
  ex : ∃ cells at' cur seed, ds = dr cells at' cur seed ∧ (∀ c ∈ cells, 0 ≤ c) ∧ -1 ≤ at' ∧ 0 ≤ cur ∧ 0 ≤ seed ∧ seed < 2147483647
theorem at_int {cells : List Int} {i : Int} (h0 : 0 ≤ i) (h : i < cells.length) : ∃ c, c ∈ cells ∧ fIx (.list (cells.map PyData.int)) (.int i) = some (.val (.int c)) := by
  have hl : i.toNat < cells.length := by omega
  refine ⟨cells[i.toNat], List.getElem_mem _, y_ixL (atI_at h0 ?_)⟩
  rw [List.getElem?_map, List.getElem?_eq_getElem hl]
  rfl
theorem take_ok {ds : List Da} {many : Int} (D : DrawOk ds) (hm : 0 < many) (hd : many < 1073741824) : ∃ r ds', fn_13 [.io ds, .val (.int many)] = .ok (.val (.int r)) (some ds') ∧ 0 ≤ r ∧ r < many ∧ DrawOk ds' := by
  obtain ⟨cells, at', cur, seed, rfl, hc, ha, h0, h1, h2⟩ := D.ex
  have fin : ∀ {cur' seed' at2 : Int}, 0 ≤ cur' → 0 ≤ seed' → seed' < 2147483647 → -1 ≤ at2 → 0 ≤ cur' % many ∧ cur' % many < many ∧ DrawOk (dr cells at2 (cur' / many) seed') := fun {cur' seed' at2} a b c d =>
    ⟨Int.emod_nonneg _ (by omega), Int.emod_lt_of_pos _ hm, ⟨⟨cells, at2, cur' / many, seed', rfl, hc, d, Int.ediv_nonneg a (by omega), b, c⟩⟩⟩
  have hdv : ∀ x, CDiv x many := fun x => ⟨hm, hd⟩
  have hmul : CMul seed 48271 := .inr (by omega)
  have s1 : 0 ≤ (seed * 48271 + 11) % 2147483647 := Int.emod_nonneg _ (by omega)
  have s2 : (seed * 48271 + 11) % 2147483647 < 2147483647 := Int.emod_lt_of_pos _ (by omega)
  have em : fMod (.int (seed * 48271 + 11)) (.int 2147483647) = some (.val (.int ((seed * 48271 + 11) % 2147483647))) := y_mod (by omega)
  by_cases hz : cur = 0
  · subst hz
    by_cases hl : at' + 1 < cells.length
    · obtain ⟨c, c1, c2⟩ := at_int (cells := cells) (i := at' + 1) (by omega) hl
      by_cases cz : c = 0
      · subst cz
        refine ⟨_, _, ?_, fin (at2 := at' + 1) s1 s1 s2 (by omega)⟩
        unfold fn_13 bodyF dr
        simp only [ms_13, List.replicate, one_io, List.all_cons, List.all_nil, Nat.reduceSub, z_And, z_AndV, z_Args, z_Args0, z_Asg, z_BV, z_Bin, z_Break, z_C, z_CallB, z_Chain, z_Comp, z_Cont, z_DGet, z_DIn, z_DPut, z_Enum, z_Expr, z_For, z_Group, z_If, z_It, z_List, z_Meth, z_NewK, z_NewT, z_Next, z_Nm, z_NoP, z_Not, z_Op, z_Or, z_OrV, z_P, z_Par, z_Pass, z_Pk, z_Read, z_Ret, z_RetN, z_Rg1, z_Rg2, z_SIf, z_Seq, z_Sl, z_Sub, z_TB, z_Take, z_Tru, z_Tu, z_Tup, z_Turn, z_Un, z_Var, z_abs, z_agK, z_andF, z_andT, z_andVF, z_andVT, z_apI, z_apO, z_app1, z_app2, z_appA, z_ar1, z_ar2, z_arK, z_arK2, z_argP, z_argS, z_argV, z_args, z_args0, z_asK, z_asK2, z_atI, z_atK, z_atO, z_atV, z_augE, z_augF, z_binK, z_binK2, z_bvK, z_callE, z_cbK, z_chK, z_chK2, z_chain2, z_chnF, z_chnT, z_clB, z_clK, z_coK, z_dgK, z_dgK2, z_dget, z_diK, z_diK2, z_din, z_dispL, z_dispT, z_dvget, z_exK, z_exc, z_go, z_go0, z_goK, z_gotD, z_gotIn, z_grK, z_ifF, z_ifT, z_ifVF, z_ifVT, z_int, z_intB, z_io0, z_ioP, z_ioS, z_ioV, z_isL, z_isO, z_itE, z_itL, z_itS, z_itT, z_kpO, z_kpV, z_lenL, z_lenT, z_liK, z_lisL, z_lisT, z_lkK, z_look0, z_look1, z_lookD, z_lookDK, z_lookP, z_lookV, z_mCall, z_meB, z_meI, z_meK, z_meO, z_meR, z_no, z_notK, z_npK, z_npO, z_npS, z_npV, z_ok, z_one0, z_oneP, z_oneS, z_oneV, z_opO, z_opP, z_opS, z_opV, z_orF, z_orT, z_orVF, z_orVT, z_pI, z_paB, z_paK, z_paK2, z_pkK, z_puB, z_puK, z_putI, z_putM, z_putO, z_putV, z_r1K, z_r2K, z_r2K2, z_rdB, z_rdK, z_rdK2, z_rdM, z_reK, z_ret, z_retI, z_retN, z_rg1, z_rg2, z_rgI1, z_rgI2, z_rtV, z_saI, z_saO, z_seqB, z_seqC, z_seqN, z_seqR, z_sl, z_slK, z_slK2, z_slK3, z_slice, z_suB, z_suK, z_tK, z_tO, z_tV, z_tbK, z_tnK, z_truB, z_truI, z_truK, z_truL, z_truN, z_truT, z_tst, z_tuK, z_tupL, z_tupT, z_unK, z_vO, z_vS, z_vV, z_vals, z_vals0, z_wpB, z_wpO, z_yes, List.set_cons_zero, List.set_cons_succ, List.getElem?_cons_zero, List.getElem?_cons_succ, List.length_cons, List.length_nil, Bool.not_true, Bool.not_false, if_true, if_false, Bool.false_eq_true, reduceCtorEq, and_self, and_true, true_and, y_addI, y_sub, y_lt, y_gt, y_le, y_ge, y_neg, y_eqI, y_neI, Nat.reduceAdd, Nat.reduceLT, Nat.reduceLeDiff, decide_eq_true_eq, sz, Nat.zero_le, dn_len, List.isEmpty_cons, List.isEmpty_nil, List.cons_append, List.nil_append, List.all_cons, List.all_nil, Bool.and_true, Bool.true_and, Bool.and_self, ix0, ix1, ix2, ix3, n1, n2, n3, decide_true, List.length_map, decide_eq_true hl, c2, em, y_mul hmul, y_mod hm, y_div (hdv _)]
        rfl
      · refine ⟨_, _, ?_, fin (at2 := at' + 1) (hc c c1) h1 h2 (by omega)⟩
        unfold fn_13 bodyF dr
        simp only [ms_13, List.replicate, one_io, List.all_cons, List.all_nil, Nat.reduceSub, z_And, z_AndV, z_Args, z_Args0, z_Asg, z_BV, z_Bin, z_Break, z_C, z_CallB, z_Chain, z_Comp, z_Cont, z_DGet, z_DIn, z_DPut, z_Enum, z_Expr, z_For, z_Group, z_If, z_It, z_List, z_Meth, z_NewK, z_NewT, z_Next, z_Nm, z_NoP, z_Not, z_Op, z_Or, z_OrV, z_P, z_Par, z_Pass, z_Pk, z_Read, z_Ret, z_RetN, z_Rg1, z_Rg2, z_SIf, z_Seq, z_Sl, z_Sub, z_TB, z_Take, z_Tru, z_Tu, z_Tup, z_Turn, z_Un, z_Var, z_abs, z_agK, z_andF, z_andT, z_andVF, z_andVT, z_apI, z_apO, z_app1, z_app2, z_appA, z_ar1, z_ar2, z_arK, z_arK2, z_argP, z_argS, z_argV, z_args, z_args0, z_asK, z_asK2, z_atI, z_atK, z_atO, z_atV, z_augE, z_augF, z_binK, z_binK2, z_bvK, z_callE, z_cbK, z_chK, z_chK2, z_chain2, z_chnF, z_chnT, z_clB, z_clK, z_coK, z_dgK, z_dgK2, z_dget, z_diK, z_diK2, z_din, z_dispL, z_dispT, z_dvget, z_exK, z_exc, z_go, z_go0, z_goK, z_gotD, z_gotIn, z_grK, z_ifF, z_ifT, z_ifVF, z_ifVT, z_int, z_intB, z_io0, z_ioP, z_ioS, z_ioV, z_isL, z_isO, z_itE, z_itL, z_itS, z_itT, z_kpO, z_kpV, z_lenL, z_lenT, z_liK, z_lisL, z_lisT, z_lkK, z_look0, z_look1, z_lookD, z_lookDK, z_lookP, z_lookV, z_mCall, z_meB, z_meI, z_meK, z_meO, z_meR, z_no, z_notK, z_npK, z_npO, z_npS, z_npV, z_ok, z_one0, z_oneP, z_oneS, z_oneV, z_opO, z_opP, z_opS, z_opV, z_orF, z_orT, z_orVF, z_orVT, z_pI, z_paB, z_paK, z_paK2, z_pkK, z_puB, z_puK, z_putI, z_putM, z_putO, z_putV, z_r1K, z_r2K, z_r2K2, z_rdB, z_rdK, z_rdK2, z_rdM, z_reK, z_ret, z_retI, z_retN, z_rg1, z_rg2, z_rgI1, z_rgI2, z_rtV, z_saI, z_saO, z_seqB, z_seqC, z_seqN, z_seqR, z_sl, z_slK, z_slK2, z_slK3, z_slice, z_suB, z_suK, z_tK, z_tO, z_tV, z_tbK, z_tnK, z_truB, z_truI, z_truK, z_truL, z_truN, z_truT, z_tst, z_tuK, z_tupL, z_tupT, z_unK, z_vO, z_vS, z_vV, z_vals, z_vals0, z_wpB, z_wpO, z_yes, List.set_cons_zero, List.set_cons_succ, List.getElem?_cons_zero, List.getElem?_cons_succ, List.length_cons, List.length_nil, Bool.not_true, Bool.not_false, if_true, if_false, Bool.false_eq_true, reduceCtorEq, and_self, and_true, true_and, y_addI, y_sub, y_lt, y_gt, y_le, y_ge, y_neg, y_eqI, y_neI, Nat.reduceAdd, Nat.reduceLT, Nat.reduceLeDiff, decide_eq_true_eq, sz, Nat.zero_le, dn_len, List.isEmpty_cons, List.isEmpty_nil, List.cons_append, List.nil_append, List.all_cons, List.all_nil, Bool.and_true, Bool.true_and, Bool.and_self, ix0, ix1, ix2, ix3, n1, n2, n3, decide_true, List.length_map, decide_eq_true hl, c2, decide_eq_false cz, em, y_mul hmul, y_mod hm, y_div (hdv _)]
        rfl
    · refine ⟨_, _, ?_, fin (at2 := at' + 1) s1 s1 s2 (by omega)⟩
      unfold fn_13 bodyF dr
      simp only [ms_13, List.replicate, one_io, List.all_cons, List.all_nil, Nat.reduceSub, z_And, z_AndV, z_Args, z_Args0, z_Asg, z_BV, z_Bin, z_Break, z_C, z_CallB, z_Chain, z_Comp, z_Cont, z_DGet, z_DIn, z_DPut, z_Enum, z_Expr, z_For, z_Group, z_If, z_It, z_List, z_Meth, z_NewK, z_NewT, z_Next, z_Nm, z_NoP, z_Not, z_Op, z_Or, z_OrV, z_P, z_Par, z_Pass, z_Pk, z_Read, z_Ret, z_RetN, z_Rg1, z_Rg2, z_SIf, z_Seq, z_Sl, z_Sub, z_TB, z_Take, z_Tru, z_Tu, z_Tup, z_Turn, z_Un, z_Var, z_abs, z_agK, z_andF, z_andT, z_andVF, z_andVT, z_apI, z_apO, z_app1, z_app2, z_appA, z_ar1, z_ar2, z_arK, z_arK2, z_argP, z_argS, z_argV, z_args, z_args0, z_asK, z_asK2, z_atI, z_atK, z_atO, z_atV, z_augE, z_augF, z_binK, z_binK2, z_bvK, z_callE, z_cbK, z_chK, z_chK2, z_chain2, z_chnF, z_chnT, z_clB, z_clK, z_coK, z_dgK, z_dgK2, z_dget, z_diK, z_diK2, z_din, z_dispL, z_dispT, z_dvget, z_exK, z_exc, z_go, z_go0, z_goK, z_gotD, z_gotIn, z_grK, z_ifF, z_ifT, z_ifVF, z_ifVT, z_int, z_intB, z_io0, z_ioP, z_ioS, z_ioV, z_isL, z_isO, z_itE, z_itL, z_itS, z_itT, z_kpO, z_kpV, z_lenL, z_lenT, z_liK, z_lisL, z_lisT, z_lkK, z_look0, z_look1, z_lookD, z_lookDK, z_lookP, z_lookV, z_mCall, z_meB, z_meI, z_meK, z_meO, z_meR, z_no, z_notK, z_npK, z_npO, z_npS, z_npV, z_ok, z_one0, z_oneP, z_oneS, z_oneV, z_opO, z_opP, z_opS, z_opV, z_orF, z_orT, z_orVF, z_orVT, z_pI, z_paB, z_paK, z_paK2, z_pkK, z_puB, z_puK, z_putI, z_putM, z_putO, z_putV, z_r1K, z_r2K, z_r2K2, z_rdB, z_rdK, z_rdK2, z_rdM, z_reK, z_ret, z_retI, z_retN, z_rg1, z_rg2, z_rgI1, z_rgI2, z_rtV, z_saI, z_saO, z_seqB, z_seqC, z_seqN, z_seqR, z_sl, z_slK, z_slK2, z_slK3, z_slice, z_suB, z_suK, z_tK, z_tO, z_tV, z_tbK, z_tnK, z_truB, z_truI, z_truK, z_truL, z_truN, z_truT, z_tst, z_tuK, z_tupL, z_tupT, z_unK, z_vO, z_vS, z_vV, z_vals, z_vals0, z_wpB, z_wpO, z_yes, List.set_cons_zero, List.set_cons_succ, List.getElem?_cons_zero, List.getElem?_cons_succ, List.length_cons, List.length_nil, Bool.not_true, Bool.not_false, if_true, if_false, Bool.false_eq_true, reduceCtorEq, and_self, and_true, true_and, y_addI, y_sub, y_lt, y_gt, y_le, y_ge, y_neg, y_eqI, y_neI, Nat.reduceAdd, Nat.reduceLT, Nat.reduceLeDiff, decide_eq_true_eq, sz, Nat.zero_le, dn_len, List.isEmpty_cons, List.isEmpty_nil, List.cons_append, List.nil_append, List.all_cons, List.all_nil, Bool.and_true, Bool.true_and, Bool.and_self, ix0, ix1, ix2, ix3, n1, n2, n3, decide_true, List.length_map, decide_eq_false hl, em, y_mul hmul, y_mod hm, y_div (hdv _)]
      rfl
  · refine ⟨_, _, ?_, fin (at2 := at') h0 h1 h2 ha⟩
    unfold fn_13 bodyF dr
    simp only [ms_13, List.replicate, one_io, List.all_cons, List.all_nil, Nat.reduceSub, z_And, z_AndV, z_Args, z_Args0, z_Asg, z_BV, z_Bin, z_Break, z_C, z_CallB, z_Chain, z_Comp, z_Cont, z_DGet, z_DIn, z_DPut, z_Enum, z_Expr, z_For, z_Group, z_If, z_It, z_List, z_Meth, z_NewK, z_NewT, z_Next, z_Nm, z_NoP, z_Not, z_Op, z_Or, z_OrV, z_P, z_Par, z_Pass, z_Pk, z_Read, z_Ret, z_RetN, z_Rg1, z_Rg2, z_SIf, z_Seq, z_Sl, z_Sub, z_TB, z_Take, z_Tru, z_Tu, z_Tup, z_Turn, z_Un, z_Var, z_abs, z_agK, z_andF, z_andT, z_andVF, z_andVT, z_apI, z_apO, z_app1, z_app2, z_appA, z_ar1, z_ar2, z_arK, z_arK2, z_argP, z_argS, z_argV, z_args, z_args0, z_asK, z_asK2, z_atI, z_atK, z_atO, z_atV, z_augE, z_augF, z_binK, z_binK2, z_bvK, z_callE, z_cbK, z_chK, z_chK2, z_chain2, z_chnF, z_chnT, z_clB, z_clK, z_coK, z_dgK, z_dgK2, z_dget, z_diK, z_diK2, z_din, z_dispL, z_dispT, z_dvget, z_exK, z_exc, z_go, z_go0, z_goK, z_gotD, z_gotIn, z_grK, z_ifF, z_ifT, z_ifVF, z_ifVT, z_int, z_intB, z_io0, z_ioP, z_ioS, z_ioV, z_isL, z_isO, z_itE, z_itL, z_itS, z_itT, z_kpO, z_kpV, z_lenL, z_lenT, z_liK, z_lisL, z_lisT, z_lkK, z_look0, z_look1, z_lookD, z_lookDK, z_lookP, z_lookV, z_mCall, z_meB, z_meI, z_meK, z_meO, z_meR, z_no, z_notK, z_npK, z_npO, z_npS, z_npV, z_ok, z_one0, z_oneP, z_oneS, z_oneV, z_opO, z_opP, z_opS, z_opV, z_orF, z_orT, z_orVF, z_orVT, z_pI, z_paB, z_paK, z_paK2, z_pkK, z_puB, z_puK, z_putI, z_putM, z_putO, z_putV, z_r1K, z_r2K, z_r2K2, z_rdB, z_rdK, z_rdK2, z_rdM, z_reK, z_ret, z_retI, z_retN, z_rg1, z_rg2, z_rgI1, z_rgI2, z_rtV, z_saI, z_saO, z_seqB, z_seqC, z_seqN, z_seqR, z_sl, z_slK, z_slK2, z_slK3, z_slice, z_suB, z_suK, z_tK, z_tO, z_tV, z_tbK, z_tnK, z_truB, z_truI, z_truK, z_truL, z_truN, z_truT, z_tst, z_tuK, z_tupL, z_tupT, z_unK, z_vO, z_vS, z_vV, z_vals, z_vals0, z_wpB, z_wpO, z_yes, List.set_cons_zero, List.set_cons_succ, List.getElem?_cons_zero, List.getElem?_cons_succ, List.length_cons, List.length_nil, Bool.not_true, Bool.not_false, if_true, if_false, Bool.false_eq_true, reduceCtorEq, and_self, and_true, true_and, y_addI, y_sub, y_lt, y_gt, y_le, y_ge, y_neg, y_eqI, y_neI, Nat.reduceAdd, Nat.reduceLT, Nat.reduceLeDiff, decide_eq_true_eq, sz, Nat.zero_le, dn_len, List.isEmpty_cons, List.isEmpty_nil, List.cons_append, List.nil_append, List.all_cons, List.all_nil, Bool.and_true, Bool.true_and, Bool.and_self, ix0, ix1, ix2, ix3, n1, n2, n3, decide_eq_false hz, y_mod hm, y_div (hdv _)]
    rfl
theorem draw_ok {ns : List Int} (hl : ns.length ≤ 63) : ∃ ds, fn_12 [.scr ns] = .ok (.own ds) none ∧ DrawOk ds := by
  have key : WF (fn_12 [.scr ns]) (fun r io => ∃ ds, r = .own ds ∧ io = none ∧ DrawOk ds) := by
    refine body_P rfl rfl ?_
    show WP (ms_12 [.scr ns, .no, .no]) _
    simp only [ms_12, z_And, z_AndV, z_Args, z_Args0, z_Asg, z_BV, z_Bin, z_Break, z_C, z_CallB, z_Chain, z_Comp, z_Cont, z_DGet, z_DIn, z_DPut, z_Enum, z_Expr, z_For, z_Group, z_If, z_It, z_List, z_Meth, z_NewK, z_NewT, z_Next, z_Nm, z_NoP, z_Not, z_Op, z_Or, z_OrV, z_P, z_Par, z_Pass, z_Pk, z_Read, z_Ret, z_RetN, z_Rg1, z_Rg2, z_SIf, z_Seq, z_Sl, z_Sub, z_TB, z_Take, z_Tru, z_Tu, z_Tup, z_Turn, z_Un, z_Var, z_abs, z_agK, z_andF, z_andT, z_andVF, z_andVT, z_apI, z_apO, z_app1, z_app2, z_appA, z_ar1, z_ar2, z_arK, z_arK2, z_argP, z_argS, z_argV, z_args, z_args0, z_asK, z_asK2, z_atI, z_atK, z_atO, z_atV, z_augE, z_augF, z_binK, z_binK2, z_bvK, z_callE, z_cbK, z_chK, z_chK2, z_chain2, z_chnF, z_chnT, z_clB, z_clK, z_coK, z_dgK, z_dgK2, z_dget, z_diK, z_diK2, z_din, z_dispL, z_dispT, z_dvget, z_exK, z_exc, z_go, z_go0, z_goK, z_gotD, z_gotIn, z_grK, z_ifF, z_ifT, z_ifVF, z_ifVT, z_int, z_intB, z_io0, z_ioP, z_ioS, z_ioV, z_isL, z_isO, z_itE, z_itL, z_itS, z_itT, z_kpO, z_kpV, z_lenL, z_lenT, z_liK, z_lisL, z_lisT, z_lkK, z_look0, z_look1, z_lookD, z_lookDK, z_lookP, z_lookV, z_mCall, z_meB, z_meI, z_meK, z_meO, z_meR, z_no, z_notK, z_npK, z_npO, z_npS, z_npV, z_ok, z_one0, z_oneP, z_oneS, z_oneV, z_opO, z_opP, z_opS, z_opV, z_orF, z_orT, z_orVF, z_orVT, z_pI, z_paB, z_paK, z_paK2, z_pkK, z_puB, z_puK, z_putI, z_putM, z_putO, z_putV, z_r1K, z_r2K, z_r2K2, z_rdB, z_rdK, z_rdK2, z_rdM, z_reK, z_ret, z_retI, z_retN, z_rg1, z_rg2, z_rgI1, z_rgI2, z_rtV, z_saI, z_saO, z_seqB, z_seqC, z_seqN, z_seqR, z_sl, z_slK, z_slK2, z_slK3, z_slice, z_suB, z_suK, z_tK, z_tO, z_tV, z_tbK, z_tnK, z_truB, z_truI, z_truK, z_truL, z_truN, z_truT, z_tst, z_tuK, z_tupL, z_tupT, z_unK, z_vO, z_vS, z_vV, z_vals, z_vals0, z_wpB, z_wpO, z_yes, List.set_cons_zero, List.set_cons_succ, List.getElem?_cons_zero, List.getElem?_cons_succ, List.length_cons, List.length_nil, Bool.not_true, Bool.not_false, if_true, if_false, Bool.false_eq_true, reduceCtorEq, and_self, and_true, true_and, y_addI, y_sub, y_lt, y_gt, y_le, y_ge, y_neg, y_eqI, y_neI, Nat.reduceAdd, Nat.reduceLT, Nat.reduceLeDiff, decide_eq_true_eq, sz, Nat.zero_le, dn_len, List.isEmpty_cons, List.isEmpty_nil, List.cons_append, List.nil_append, List.all_cons, List.all_nil, Bool.and_true, Bool.true_and, Bool.and_self]
    refine forL_P (fun _ e => ∃ seed s, e = [.scr ns, .val (.int seed), s] ∧ freeS s = true ∧ 0 ≤ seed ∧ seed < 2147483647) (fun i d e hd hI => ?_) (fun e hI => ?_) ⟨7, .no, rfl, rfl, by omega, by omega⟩
    · obtain ⟨seed, s, rfl, hs, h1, h2⟩ := hI
      rw [List.getElem?_map] at hd
      obtain ⟨n, hn, rfl⟩ := Option.map_eq_some_iff.mp hd
      have hmul : CMul seed 48271 := .inr (by omega)
      have s1 : ∀ x : Int, 0 ≤ x % 2147483647 := fun x => Int.emod_nonneg _ (by omega)
      have s2 : ∀ x : Int, x % 2147483647 < 2147483647 := fun x => Int.emod_lt_of_pos _ (by omega)
      have em : ∀ x : Int, fMod (.int x) (.int 2147483647) = some (.val (.int (x % 2147483647))) := fun x => y_mod (by omega)
      have em2 : ∀ x : Int, fMod (.int x) (.int 65521) = some (.val (.int (x % 65521))) := fun x => y_mod (by omega)
      simp only [z_And, z_AndV, z_Args, z_Args0, z_Asg, z_BV, z_Bin, z_Break, z_C, z_CallB, z_Chain, z_Comp, z_Cont, z_DGet, z_DIn, z_DPut, z_Enum, z_Expr, z_For, z_Group, z_If, z_It, z_List, z_Meth, z_NewK, z_NewT, z_Next, z_Nm, z_NoP, z_Not, z_Op, z_Or, z_OrV, z_P, z_Par, z_Pass, z_Pk, z_Read, z_Ret, z_RetN, z_Rg1, z_Rg2, z_SIf, z_Seq, z_Sl, z_Sub, z_TB, z_Take, z_Tru, z_Tu, z_Tup, z_Turn, z_Un, z_Var, z_abs, z_agK, z_andF, z_andT, z_andVF, z_andVT, z_apI, z_apO, z_app1, z_app2, z_appA, z_ar1, z_ar2, z_arK, z_arK2, z_argP, z_argS, z_argV, z_args, z_args0, z_asK, z_asK2, z_atI, z_atK, z_atO, z_atV, z_augE, z_augF, z_binK, z_binK2, z_bvK, z_callE, z_cbK, z_chK, z_chK2, z_chain2, z_chnF, z_chnT, z_clB, z_clK, z_coK, z_dgK, z_dgK2, z_dget, z_diK, z_diK2, z_din, z_dispL, z_dispT, z_dvget, z_exK, z_exc, z_go, z_go0, z_goK, z_gotD, z_gotIn, z_grK, z_ifF, z_ifT, z_ifVF, z_ifVT, z_int, z_intB, z_io0, z_ioP, z_ioS, z_ioV, z_isL, z_isO, z_itE, z_itL, z_itS, z_itT, z_kpO, z_kpV, z_lenL, z_lenT, z_liK, z_lisL, z_lisT, z_lkK, z_look0, z_look1, z_lookD, z_lookDK, z_lookP, z_lookV, z_mCall, z_meB, z_meI, z_meK, z_meO, z_meR, z_no, z_notK, z_npK, z_npO, z_npS, z_npV, z_ok, z_one0, z_oneP, z_oneS, z_oneV, z_opO, z_opP, z_opS, z_opV, z_orF, z_orT, z_orVF, z_orVT, z_pI, z_paB, z_paK, z_paK2, z_pkK, z_puB, z_puK, z_putI, z_putM, z_putO, z_putV, z_r1K, z_r2K, z_r2K2, z_rdB, z_rdK, z_rdK2, z_rdM, z_reK, z_ret, z_retI, z_retN, z_rg1, z_rg2, z_rgI1, z_rgI2, z_rtV, z_saI, z_saO, z_seqB, z_seqC, z_seqN, z_seqR, z_sl, z_slK, z_slK2, z_slK3, z_slice, z_suB, z_suK, z_tK, z_tO, z_tV, z_tbK, z_tnK, z_truB, z_truI, z_truK, z_truL, z_truN, z_truT, z_tst, z_tuK, z_tupL, z_tupT, z_unK, z_vO, z_vS, z_vV, z_vals, z_vals0, z_wpB, z_wpO, z_yes, List.set_cons_zero, List.set_cons_succ, List.getElem?_cons_zero, List.getElem?_cons_succ, List.length_cons, List.length_nil, Bool.not_true, Bool.not_false, if_true, if_false, Bool.false_eq_true, reduceCtorEq, and_self, and_true, true_and, y_addI, y_sub, y_lt, y_gt, y_le, y_ge, y_neg, y_eqI, y_neI, Nat.reduceAdd, Nat.reduceLT, Nat.reduceLeDiff, decide_eq_true_eq, sz, Nat.zero_le, dn_len, List.isEmpty_cons, List.isEmpty_nil, List.cons_append, List.nil_append, List.all_cons, List.all_nil, Bool.and_true, Bool.true_and, Bool.and_self, y_mul hmul, em, em2]
      exact ⟨_, _, rfl, rfl, s1 _, s2 _⟩
    · obtain ⟨seed, s, rfl, hs, h1, h2⟩ := hI
      have hf : freeAt [.scr ns, .val (.int seed), s] [2] = true := by
        show (freeS s && true) = true
        rw [hs]; rfl
      have hc := comp_all (ct := .one 2) (t := yesT) (m := mCallB (ar1 fAbs) (mArgs [mCallB (ar1 fInt) (mArgs [mPk 2])])) (vs := [2]) hf (fun d => match d with
        | .int i => .int (if i < 0 then -i else i)
        | d => d) (ns.map PyData.int) [] (by
          have : sizeLine = 16777216 := by decide
          rw [List.length_map, List.length_nil, this]; omega) fun d hd => by
        obtain ⟨n, _, rfl⟩ := List.mem_map.mp hd
        refine ⟨_, _, _, rfl, rfl, rfl, rfl⟩
      simp only [z_And, z_AndV, z_Args, z_Args0, z_Asg, z_BV, z_Bin, z_Break, z_C, z_CallB, z_Chain, z_Comp, z_Cont, z_DGet, z_DIn, z_DPut, z_Enum, z_Expr, z_For, z_Group, z_If, z_It, z_List, z_Meth, z_NewK, z_NewT, z_Next, z_Nm, z_NoP, z_Not, z_Op, z_Or, z_OrV, z_P, z_Par, z_Pass, z_Pk, z_Read, z_Ret, z_RetN, z_Rg1, z_Rg2, z_SIf, z_Seq, z_Sl, z_Sub, z_TB, z_Take, z_Tru, z_Tu, z_Tup, z_Turn, z_Un, z_Var, z_abs, z_agK, z_andF, z_andT, z_andVF, z_andVT, z_apI, z_apO, z_app1, z_app2, z_appA, z_ar1, z_ar2, z_arK, z_arK2, z_argP, z_argS, z_argV, z_args, z_args0, z_asK, z_asK2, z_atI, z_atK, z_atO, z_atV, z_augE, z_augF, z_binK, z_binK2, z_bvK, z_callE, z_cbK, z_chK, z_chK2, z_chain2, z_chnF, z_chnT, z_clB, z_clK, z_coK, z_dgK, z_dgK2, z_dget, z_diK, z_diK2, z_din, z_dispL, z_dispT, z_dvget, z_exK, z_exc, z_go, z_go0, z_goK, z_gotD, z_gotIn, z_grK, z_ifF, z_ifT, z_ifVF, z_ifVT, z_int, z_intB, z_io0, z_ioP, z_ioS, z_ioV, z_isL, z_isO, z_itE, z_itL, z_itS, z_itT, z_kpO, z_kpV, z_lenL, z_lenT, z_liK, z_lisL, z_lisT, z_lkK, z_look0, z_look1, z_lookD, z_lookDK, z_lookP, z_lookV, z_mCall, z_meB, z_meI, z_meK, z_meO, z_meR, z_no, z_notK, z_npK, z_npO, z_npS, z_npV, z_ok, z_one0, z_oneP, z_oneS, z_oneV, z_opO, z_opP, z_opS, z_opV, z_orF, z_orT, z_orVF, z_orVT, z_pI, z_paB, z_paK, z_paK2, z_pkK, z_puB, z_puK, z_putI, z_putM, z_putO, z_putV, z_r1K, z_r2K, z_r2K2, z_rdB, z_rdK, z_rdK2, z_rdM, z_reK, z_ret, z_retI, z_retN, z_rg1, z_rg2, z_rgI1, z_rgI2, z_rtV, z_saI, z_saO, z_seqB, z_seqC, z_seqN, z_seqR, z_sl, z_slK, z_slK2, z_slK3, z_slice, z_suB, z_suK, z_tK, z_tO, z_tV, z_tbK, z_tnK, z_truB, z_truI, z_truK, z_truL, z_truN, z_truT, z_tst, z_tuK, z_tupL, z_tupT, z_unK, z_vO, z_vS, z_vV, z_vals, z_vals0, z_wpB, z_wpO, z_yes, List.set_cons_zero, List.set_cons_succ, List.getElem?_cons_zero, List.getElem?_cons_succ, List.length_cons, List.length_nil, Bool.not_true, Bool.not_false, if_true, if_false, Bool.false_eq_true, reduceCtorEq, and_self, and_true, true_and, y_addI, y_sub, y_lt, y_gt, y_le, y_ge, y_neg, y_eqI, y_neI, Nat.reduceAdd, Nat.reduceLT, Nat.reduceLeDiff, decide_eq_true_eq, sz, Nat.zero_le, dn_len, List.isEmpty_cons, List.isEmpty_nil, List.cons_append, List.nil_append, List.all_cons, List.all_nil, Bool.and_true, Bool.true_and, Bool.and_self, hc]
      refine ⟨_, rfl, rfl, ⟨⟨ns.map fun i => if i < 0 then -i else i, -1, 0, seed, ?_, fun c hc => ?_, by omega, by omega, h1, h2⟩⟩⟩
      · unfold dr
        rw [List.map_map, List.map_map]
        rfl
      · obtain ⟨i, _, rfl⟩ := List.mem_map.mp hc
        split <;> omega
  obtain ⟨r, io, h, ds, rfl, rfl, h2⟩ := ok_of_P key
  exact ⟨ds, h, h2⟩
end VP
namespace VP
open PySem VL L2
/-! ### the law's tables -/
def Perm0 (p : List Nat) (n : Nat) : Prop := p.Perm (List.range n)
theorem Perm0.len {p : List Nat} {n : Nat} (h : Perm0 p n) : p.length = n := by rw [List.Perm.length_eq h, List.length_range]
theorem Perm0.nd {p : List Nat} {n : Nat} (h : Perm0 p n) : p.Nodup := (List.Perm.nodup_iff h).mpr List.nodup_range
theorem Perm0.mem {p : List Nat} {n : Nat} (h : Perm0 p n) {x : Nat} : x ∈ p ↔ x < n := by rw [List.Perm.mem_iff h, List.mem_range]
theorem Perm0.lt {p : List Nat} {n : Nat} (h : Perm0 p n) {i : Nat} (hi : i < n) : p.getD i 0 < n := h.mem.mp (getD_mem (by rw [h.len]; exact hi))
/-- the row so far: what stands behind at is as it was, what stands ahead of at goes round among itself -/
def rowInv (order row : List Nat) (at' n : Nat) : Prop := (∀ i, at' ≤ i → i < n → row.getD (order.getD i 0) 0 = order.getD i 0) ∧ ((order.take at').map fun x => row.getD x 0).Perm (order.take at')
theorem rot_perm {ring : List Nat} {f : Nat → Nat} (h0 : ring ≠ []) (h : ∀ i, i < ring.length → f (ring.getD i 0) = ring.getD ((i + 1) % ring.length) 0) : (ring.map f).Perm ring := by
  have hl : 0 < ring.length := List.length_pos_iff.mpr h0
  have e : ring.map f = ring.drop 1 ++ ring.take 1 := by
    refine ext_getD (by simp; omega) fun i hi => ?_
    rw [List.length_map] at hi
    rw [getD_map hi, h i hi]
    by_cases c : i + 1 < ring.length
    · rw [Nat.mod_eq_of_lt c, List.getD_eq_getElem?_getD (l := _ ++ _), List.getElem?_append_left (by rw [List.length_drop]; omega), ← List.getD_eq_getElem?_getD, getD_drop, Nat.add_comm]
    · have : i + 1 = ring.length := by omega
      rw [this, Nat.mod_self, List.getD_eq_getElem?_getD (l := _ ++ _), List.getElem?_append_right (by rw [List.length_drop]; omega), ← List.getD_eq_getElem?_getD, List.length_drop, getD_take (by omega)]
      congr 1
      omega
  rw [e]
  exact List.perm_append_comm.trans (List.Perm.of_eq (List.take_append_drop 1 ring))
theorem row_step {order row row' : List Nat} {a many n : Nat} (ho : Perm0 order n) (h : rowInv order row a n) (hm : 1 ≤ many) (hle : a + many ≤ n)
    (h1 : ∀ x, x ∉ (order.drop a).take many → row'.getD x 0 = row.getD x 0) (h2 : ∀ i, i < many → row'.getD (((order.drop a).take many).getD i 0) 0 = ((order.drop a).take many).getD ((i + 1) % many) 0) : rowInv order row' (a + many) n := by
  have rl : ((order.drop a).take many).length = many := by rw [List.length_take, List.length_drop, ho.len]; omega
  have nin : ∀ i, i < n → (i < a ∨ a + many ≤ i) → order.getD i 0 ∉ (order.drop a).take many := fun i hi hc hx => by
    obtain ⟨j, hj, e⟩ := mem_getD hx
    rw [rl] at hj
    rw [getD_take hj, getD_drop] at e
    have := getD_inj ho.nd (i := a + j) (j := i) (by rw [ho.len]; omega) (by rw [ho.len]; exact hi) e
    omega
  refine ⟨fun i h3 h4 => ?_, ?_⟩
  · rw [h1 _ (nin i h4 (.inr h3))]
    exact h.1 i (by omega) h4
  · have e : order.take (a + many) = order.take a ++ (order.drop a).take many := List.take_add
    rw [e, List.map_append]
    refine List.Perm.append ?_ ?_
    · have e2 : (order.take a).map (fun x => row'.getD x 0) = (order.take a).map fun x => row.getD x 0 := by
        refine List.map_congr_left fun x hx => ?_
        obtain ⟨i, hi, rfl⟩ := mem_getD hx
        rw [List.length_take] at hi
        rw [getD_take (by omega)]
        exact h1 _ (nin i (by omega) (.inl (by omega)))
      rw [e2]
      exact h.2
    · exact rot_perm (fun z => by rw [z] at rl; simp at rl; omega) fun i hi => by rw [rl] at hi ⊢; exact h2 i hi
theorem row_end {order row : List Nat} {n : Nat} (ho : Perm0 order n) (hl : row.length = n) (h : rowInv order row n n) : Perm0 row n := by
  have h2 := h.2
  rw [List.take_of_length_le (by rw [ho.len]; exact Nat.le_refl n)] at h2
  have e : row = (List.range n).map fun x => row.getD x 0 := by
    have := (map_getD (p := row)).symm
    rw [hl] at this
    exact this
  unfold Perm0
  rw [e]
  exact ((List.Perm.map _ ho).symm.trans h2).trans ho
theorem perm_ok {ds : List Da} {w n : Nat} (D : DrawOk ds) (hw : n = 2 ^ w) (hw1 : w ≤ 5) : ∃ p ds', fn_15 [.io ds, .val (.int (w : Int))] = .ok (.val (.tuple (dn p))) (some ds') ∧ Perm0 p n ∧ DrawOk ds' := by
  have hn : 1 ≤ n ∧ n ≤ 32 := by
    subst hw
    exact ⟨Nat.one_le_two_pow, Nat.pow_le_pow_right (by omega) hw1⟩
  have e1 : fShl (.int 1) (.int (w : Int)) = some (.val (.int (n : Int))) := by
    have c : CPow 1 (w : Int) := ⟨Int.natCast_nonneg _, by omega, by rw [Int.natAbs_one]; omega⟩
    have e : iI CPow (fun i j => i * 2 ^ j.toNat) (.int 1) (.int (w : Int)) = some (.val (.int (1 * 2 ^ (w : Int).toNat))) := if_pos c
    refine e.trans ?_
    rw [Int.toNat_natCast, Int.one_mul, hw, Int.natCast_pow]
    rfl
  have rg := rgL (n := n) rfl (by omega)
  have min8 : ∀ k : Nat, fMin2 (.int (n : Int)) (.int (OfNat.ofNat k)) = some (.val (.int ((min n k : Nat) : Int))) := fun k => minN (b := k)
  have key : WF (fn_15 [.io ds, .val (.int (w : Int))]) (fun r io => ∃ p ds', r = .val (.tuple (dn p)) ∧ io = some ds' ∧ Perm0 p n ∧ DrawOk ds') := by
    refine body_P rfl rfl ?_
    show WP (ms_15 [.io ds, .val (.int (w : Int)), .no, .no, .no, .no, .no, .no, .no, .no, .no]) _
    simp only [ms_15, z_And, z_AndV, z_Args, z_Args0, z_Asg, z_BV, z_Bin, z_Break, z_C, z_CallB, z_Chain, z_Comp, z_Cont, z_DGet, z_DIn, z_DPut, z_Enum, z_Expr, z_For, z_Group, z_If, z_It, z_List, z_Meth, z_NewK, z_NewT, z_Next, z_Nm, z_NoP, z_Not, z_Op, z_Or, z_OrV, z_P, z_Par, z_Pass, z_Pk, z_Read, z_Ret, z_RetN, z_Rg1, z_Rg2, z_SIf, z_Seq, z_Sl, z_Sub, z_TB, z_Take, z_Tru, z_Tu, z_Tup, z_Turn, z_Un, z_Var, z_abs, z_agK, z_andF, z_andT, z_andVF, z_andVT, z_apI, z_apO, z_app1, z_app2, z_appA, z_ar1, z_ar2, z_arK, z_arK2, z_argP, z_argS, z_argV, z_args, z_args0, z_asK, z_asK2, z_atI, z_atK, z_atO, z_atV, z_augE, z_augF, z_binK, z_binK2, z_bvK, z_callE, z_cbK, z_chK, z_chK2, z_chain2, z_chnF, z_chnT, z_clB, z_clK, z_coK, z_dgK, z_dgK2, z_dget, z_diK, z_diK2, z_din, z_dispL, z_dispT, z_dvget, z_exK, z_exc, z_go, z_go0, z_goK, z_gotD, z_gotIn, z_grK, z_ifF, z_ifT, z_ifVF, z_ifVT, z_int, z_intB, z_io0, z_ioP, z_ioS, z_ioV, z_isL, z_isO, z_itE, z_itL, z_itS, z_itT, z_kpO, z_kpV, z_lenL, z_lenT, z_liK, z_lisL, z_lisT, z_lkK, z_look0, z_look1, z_lookD, z_lookDK, z_lookP, z_lookV, z_mCall, z_meB, z_meI, z_meK, z_meO, z_meR, z_no, z_notK, z_npK, z_npO, z_npS, z_npV, z_ok, z_one0, z_oneP, z_oneS, z_oneV, z_opO, z_opP, z_opS, z_opV, z_orF, z_orT, z_orVF, z_orVT, z_pI, z_paB, z_paK, z_paK2, z_pkK, z_puB, z_puK, z_putI, z_putM, z_putO, z_putV, z_r1K, z_r2K, z_r2K2, z_rdB, z_rdK, z_rdK2, z_rdM, z_reK, z_ret, z_retI, z_retN, z_rg1, z_rg2, z_rgI1, z_rgI2, z_rtV, z_saI, z_saO, z_seqB, z_seqC, z_seqN, z_seqR, z_sl, z_slK, z_slK2, z_slK3, z_slice, z_suB, z_suK, z_tK, z_tO, z_tV, z_tbK, z_tnK, z_truB, z_truI, z_truK, z_truL, z_truN, z_truT, z_tst, z_tuK, z_tupL, z_tupT, z_unK, z_vO, z_vS, z_vV, z_vals, z_vals0, z_wpB, z_wpO, z_yes, List.set_cons_zero, List.set_cons_succ, List.getElem?_cons_zero, List.getElem?_cons_succ, List.length_cons, List.length_nil, Bool.not_true, Bool.not_false, if_true, if_false, Bool.false_eq_true, reduceCtorEq, and_self, and_true, true_and, y_addI, y_sub, y_lt, y_gt, y_le, y_ge, y_neg, y_eqI, y_neI, Nat.reduceAdd, Nat.reduceLT, Nat.reduceLeDiff, decide_eq_true_eq, sz, Nat.zero_le, dn_len, List.isEmpty_cons, List.isEmpty_nil, List.cons_append, List.nil_append, List.all_cons, List.all_nil, Bool.and_true, Bool.true_and, Bool.and_self, e1, rg]
    refine while_P (fun m e => ∃ ds left order, e = [.io ds, .val (.int (w : Int)), .val (.int (n : Int)), .own (dn left), .own (dn order), .no, .no, .no, .no, .no, .no] ∧ m = left.length ∧ DrawOk ds ∧ (left ++ order).Perm (List.range n))
      (m := n) (by omega) ⟨ds, List.range n, [], rfl, by rw [List.length_range], D, by rw [List.append_nil]⟩ fun m e h => ?_
    obtain ⟨ds, left, order, rfl, rfl, D, hp⟩ := h
    have hlen : left.length + order.length = n := by rw [← List.length_append, hp.length_eq, List.length_range]
    refine ⟨!decide (left = []), _, by simp only [z_And, z_AndV, z_Args, z_Args0, z_Asg, z_BV, z_Bin, z_Break, z_C, z_CallB, z_Chain, z_Comp, z_Cont, z_DGet, z_DIn, z_DPut, z_Enum, z_Expr, z_For, z_Group, z_If, z_It, z_List, z_Meth, z_NewK, z_NewT, z_Next, z_Nm, z_NoP, z_Not, z_Op, z_Or, z_OrV, z_P, z_Par, z_Pass, z_Pk, z_Read, z_Ret, z_RetN, z_Rg1, z_Rg2, z_SIf, z_Seq, z_Sl, z_Sub, z_TB, z_Take, z_Tru, z_Tu, z_Tup, z_Turn, z_Un, z_Var, z_abs, z_agK, z_andF, z_andT, z_andVF, z_andVT, z_apI, z_apO, z_app1, z_app2, z_appA, z_ar1, z_ar2, z_arK, z_arK2, z_argP, z_argS, z_argV, z_args, z_args0, z_asK, z_asK2, z_atI, z_atK, z_atO, z_atV, z_augE, z_augF, z_binK, z_binK2, z_bvK, z_callE, z_cbK, z_chK, z_chK2, z_chain2, z_chnF, z_chnT, z_clB, z_clK, z_coK, z_dgK, z_dgK2, z_dget, z_diK, z_diK2, z_din, z_dispL, z_dispT, z_dvget, z_exK, z_exc, z_go, z_go0, z_goK, z_gotD, z_gotIn, z_grK, z_ifF, z_ifT, z_ifVF, z_ifVT, z_int, z_intB, z_io0, z_ioP, z_ioS, z_ioV, z_isL, z_isO, z_itE, z_itL, z_itS, z_itT, z_kpO, z_kpV, z_lenL, z_lenT, z_liK, z_lisL, z_lisT, z_lkK, z_look0, z_look1, z_lookD, z_lookDK, z_lookP, z_lookV, z_mCall, z_meB, z_meI, z_meK, z_meO, z_meR, z_no, z_notK, z_npK, z_npO, z_npS, z_npV, z_ok, z_one0, z_oneP, z_oneS, z_oneV, z_opO, z_opP, z_opS, z_opV, z_orF, z_orT, z_orVF, z_orVT, z_pI, z_paB, z_paK, z_paK2, z_pkK, z_puB, z_puK, z_putI, z_putM, z_putO, z_putV, z_r1K, z_r2K, z_r2K2, z_rdB, z_rdK, z_rdK2, z_rdM, z_reK, z_ret, z_retI, z_retN, z_rg1, z_rg2, z_rgI1, z_rgI2, z_rtV, z_saI, z_saO, z_seqB, z_seqC, z_seqN, z_seqR, z_sl, z_slK, z_slK2, z_slK3, z_slice, z_suB, z_suK, z_tK, z_tO, z_tV, z_tbK, z_tnK, z_truB, z_truI, z_truK, z_truL, z_truN, z_truT, z_tst, z_tuK, z_tupL, z_tupT, z_unK, z_vO, z_vS, z_vV, z_vals, z_vals0, z_wpB, z_wpO, z_yes, List.set_cons_zero, List.set_cons_succ, List.getElem?_cons_zero, List.getElem?_cons_succ, List.length_cons, List.length_nil, Bool.not_true, Bool.not_false, if_true, if_false, Bool.false_eq_true, reduceCtorEq, and_self, and_true, true_and, y_addI, y_sub, y_lt, y_gt, y_le, y_ge, y_neg, y_eqI, y_neI, Nat.reduceAdd, Nat.reduceLT, Nat.reduceLeDiff, decide_eq_true_eq, sz, Nat.zero_le, dn_len, List.isEmpty_cons, List.isEmpty_nil, List.cons_append, List.nil_append, List.all_cons, List.all_nil, Bool.and_true, Bool.true_and, Bool.and_self, neL0]; rfl, fun hc => ?_, fun hc => ?_⟩
    · have hne : left ≠ [] := fun z => by rw [z] at hc; simp at hc
      have hpos := List.length_pos_iff.mpr hne
      obtain ⟨r, ds', ht, r0, r1, D'⟩ := take_ok (many := (left.length : Int)) D (by omega) (by omega)
      have hr : r.toNat < left.length := by omega
      simp only [z_And, z_AndV, z_Args, z_Args0, z_Asg, z_BV, z_Bin, z_Break, z_C, z_CallB, z_Chain, z_Comp, z_Cont, z_DGet, z_DIn, z_DPut, z_Enum, z_Expr, z_For, z_Group, z_If, z_It, z_List, z_Meth, z_NewK, z_NewT, z_Next, z_Nm, z_NoP, z_Not, z_Op, z_Or, z_OrV, z_P, z_Par, z_Pass, z_Pk, z_Read, z_Ret, z_RetN, z_Rg1, z_Rg2, z_SIf, z_Seq, z_Sl, z_Sub, z_TB, z_Take, z_Tru, z_Tu, z_Tup, z_Turn, z_Un, z_Var, z_abs, z_agK, z_andF, z_andT, z_andVF, z_andVT, z_apI, z_apO, z_app1, z_app2, z_appA, z_ar1, z_ar2, z_arK, z_arK2, z_argP, z_argS, z_argV, z_args, z_args0, z_asK, z_asK2, z_atI, z_atK, z_atO, z_atV, z_augE, z_augF, z_binK, z_binK2, z_bvK, z_callE, z_cbK, z_chK, z_chK2, z_chain2, z_chnF, z_chnT, z_clB, z_clK, z_coK, z_dgK, z_dgK2, z_dget, z_diK, z_diK2, z_din, z_dispL, z_dispT, z_dvget, z_exK, z_exc, z_go, z_go0, z_goK, z_gotD, z_gotIn, z_grK, z_ifF, z_ifT, z_ifVF, z_ifVT, z_int, z_intB, z_io0, z_ioP, z_ioS, z_ioV, z_isL, z_isO, z_itE, z_itL, z_itS, z_itT, z_kpO, z_kpV, z_lenL, z_lenT, z_liK, z_lisL, z_lisT, z_lkK, z_look0, z_look1, z_lookD, z_lookDK, z_lookP, z_lookV, z_mCall, z_meB, z_meI, z_meK, z_meO, z_meR, z_no, z_notK, z_npK, z_npO, z_npS, z_npV, z_ok, z_one0, z_oneP, z_oneS, z_oneV, z_opO, z_opP, z_opS, z_opV, z_orF, z_orT, z_orVF, z_orVT, z_pI, z_paB, z_paK, z_paK2, z_pkK, z_puB, z_puK, z_putI, z_putM, z_putO, z_putV, z_r1K, z_r2K, z_r2K2, z_rdB, z_rdK, z_rdK2, z_rdM, z_reK, z_ret, z_retI, z_retN, z_rg1, z_rg2, z_rgI1, z_rgI2, z_rtV, z_saI, z_saO, z_seqB, z_seqC, z_seqN, z_seqR, z_sl, z_slK, z_slK2, z_slK3, z_slice, z_suB, z_suK, z_tK, z_tO, z_tV, z_tbK, z_tnK, z_truB, z_truI, z_truK, z_truL, z_truN, z_truT, z_tst, z_tuK, z_tupL, z_tupT, z_unK, z_vO, z_vS, z_vV, z_vals, z_vals0, z_wpB, z_wpO, z_yes, List.set_cons_zero, List.set_cons_succ, List.getElem?_cons_zero, List.getElem?_cons_succ, List.length_cons, List.length_nil, Bool.not_true, Bool.not_false, if_true, if_false, Bool.false_eq_true, reduceCtorEq, and_self, and_true, true_and, y_addI, y_sub, y_lt, y_gt, y_le, y_ge, y_neg, y_eqI, y_neI, Nat.reduceAdd, Nat.reduceLT, Nat.reduceLeDiff, decide_eq_true_eq, sz, Nat.zero_le, dn_len, List.isEmpty_cons, List.isEmpty_nil, List.cons_append, List.nil_append, List.all_cons, List.all_nil, Bool.and_true, Bool.true_and, Bool.and_self, ht, popD (p := left) (i := r) (j := r.toNat) (by omega) hr (by omega), appN (p := order) (x := left.getD r.toNat 0) (by omega)]
      refine ⟨(left.eraseIdx r.toNat).length, by rw [List.length_eraseIdx_of_lt hr]; omega, ds', _, _, rfl, rfl, D', ?_⟩
      refine List.Perm.trans ?_ hp
      rw [← List.append_assoc]
      refine (List.perm_append_comm).trans ?_
      show ((left.getD r.toNat 0 :: (left.eraseIdx r.toNat ++ order))).Perm (left ++ order)
      exact List.Perm.append_right order (erase_perm hr)
    · have hne : left = [] := by simpa using hc
      subst hne
      have ho : Perm0 order n := hp
      have hol := ho.len
      obtain ⟨r, ds', ht, r0, r1, D'⟩ := take_ok (many := 4) D (by omega) (by omega)
      by_cases hr : r = 0
      · simp only [z_And, z_AndV, z_Args, z_Args0, z_Asg, z_BV, z_Bin, z_Break, z_C, z_CallB, z_Chain, z_Comp, z_Cont, z_DGet, z_DIn, z_DPut, z_Enum, z_Expr, z_For, z_Group, z_If, z_It, z_List, z_Meth, z_NewK, z_NewT, z_Next, z_Nm, z_NoP, z_Not, z_Op, z_Or, z_OrV, z_P, z_Par, z_Pass, z_Pk, z_Read, z_Ret, z_RetN, z_Rg1, z_Rg2, z_SIf, z_Seq, z_Sl, z_Sub, z_TB, z_Take, z_Tru, z_Tu, z_Tup, z_Turn, z_Un, z_Var, z_abs, z_agK, z_andF, z_andT, z_andVF, z_andVT, z_apI, z_apO, z_app1, z_app2, z_appA, z_ar1, z_ar2, z_arK, z_arK2, z_argP, z_argS, z_argV, z_args, z_args0, z_asK, z_asK2, z_atI, z_atK, z_atO, z_atV, z_augE, z_augF, z_binK, z_binK2, z_bvK, z_callE, z_cbK, z_chK, z_chK2, z_chain2, z_chnF, z_chnT, z_clB, z_clK, z_coK, z_dgK, z_dgK2, z_dget, z_diK, z_diK2, z_din, z_dispL, z_dispT, z_dvget, z_exK, z_exc, z_go, z_go0, z_goK, z_gotD, z_gotIn, z_grK, z_ifF, z_ifT, z_ifVF, z_ifVT, z_int, z_intB, z_io0, z_ioP, z_ioS, z_ioV, z_isL, z_isO, z_itE, z_itL, z_itS, z_itT, z_kpO, z_kpV, z_lenL, z_lenT, z_liK, z_lisL, z_lisT, z_lkK, z_look0, z_look1, z_lookD, z_lookDK, z_lookP, z_lookV, z_mCall, z_meB, z_meI, z_meK, z_meO, z_meR, z_no, z_notK, z_npK, z_npO, z_npS, z_npV, z_ok, z_one0, z_oneP, z_oneS, z_oneV, z_opO, z_opP, z_opS, z_opV, z_orF, z_orT, z_orVF, z_orVT, z_pI, z_paB, z_paK, z_paK2, z_pkK, z_puB, z_puK, z_putI, z_putM, z_putO, z_putV, z_r1K, z_r2K, z_r2K2, z_rdB, z_rdK, z_rdK2, z_rdM, z_reK, z_ret, z_retI, z_retN, z_rg1, z_rg2, z_rgI1, z_rgI2, z_rtV, z_saI, z_saO, z_seqB, z_seqC, z_seqN, z_seqR, z_sl, z_slK, z_slK2, z_slK3, z_slice, z_suB, z_suK, z_tK, z_tO, z_tV, z_tbK, z_tnK, z_truB, z_truI, z_truK, z_truL, z_truN, z_truT, z_tst, z_tuK, z_tupL, z_tupT, z_unK, z_vO, z_vS, z_vV, z_vals, z_vals0, z_wpB, z_wpO, z_yes, List.set_cons_zero, List.set_cons_succ, List.getElem?_cons_zero, List.getElem?_cons_succ, List.length_cons, List.length_nil, Bool.not_true, Bool.not_false, if_true, if_false, Bool.false_eq_true, reduceCtorEq, and_self, and_true, true_and, y_addI, y_sub, y_lt, y_gt, y_le, y_ge, y_neg, y_eqI, y_neI, Nat.reduceAdd, Nat.reduceLT, Nat.reduceLeDiff, decide_eq_true_eq, sz, Nat.zero_le, dn_len, List.isEmpty_cons, List.isEmpty_nil, List.cons_append, List.nil_append, List.all_cons, List.all_nil, Bool.and_true, Bool.true_and, Bool.and_self, ht, decide_eq_true hr]
        exact ⟨order, ds', rfl, rfl, ho, D'⟩
      · obtain ⟨r2, ds2, ht2, r20, r21, D2⟩ := take_ok (many := ((min n 8 : Nat) : Int)) D' (by omega) (by omega)
        simp only [z_And, z_AndV, z_Args, z_Args0, z_Asg, z_BV, z_Bin, z_Break, z_C, z_CallB, z_Chain, z_Comp, z_Cont, z_DGet, z_DIn, z_DPut, z_Enum, z_Expr, z_For, z_Group, z_If, z_It, z_List, z_Meth, z_NewK, z_NewT, z_Next, z_Nm, z_NoP, z_Not, z_Op, z_Or, z_OrV, z_P, z_Par, z_Pass, z_Pk, z_Read, z_Ret, z_RetN, z_Rg1, z_Rg2, z_SIf, z_Seq, z_Sl, z_Sub, z_TB, z_Take, z_Tru, z_Tu, z_Tup, z_Turn, z_Un, z_Var, z_abs, z_agK, z_andF, z_andT, z_andVF, z_andVT, z_apI, z_apO, z_app1, z_app2, z_appA, z_ar1, z_ar2, z_arK, z_arK2, z_argP, z_argS, z_argV, z_args, z_args0, z_asK, z_asK2, z_atI, z_atK, z_atO, z_atV, z_augE, z_augF, z_binK, z_binK2, z_bvK, z_callE, z_cbK, z_chK, z_chK2, z_chain2, z_chnF, z_chnT, z_clB, z_clK, z_coK, z_dgK, z_dgK2, z_dget, z_diK, z_diK2, z_din, z_dispL, z_dispT, z_dvget, z_exK, z_exc, z_go, z_go0, z_goK, z_gotD, z_gotIn, z_grK, z_ifF, z_ifT, z_ifVF, z_ifVT, z_int, z_intB, z_io0, z_ioP, z_ioS, z_ioV, z_isL, z_isO, z_itE, z_itL, z_itS, z_itT, z_kpO, z_kpV, z_lenL, z_lenT, z_liK, z_lisL, z_lisT, z_lkK, z_look0, z_look1, z_lookD, z_lookDK, z_lookP, z_lookV, z_mCall, z_meB, z_meI, z_meK, z_meO, z_meR, z_no, z_notK, z_npK, z_npO, z_npS, z_npV, z_ok, z_one0, z_oneP, z_oneS, z_oneV, z_opO, z_opP, z_opS, z_opV, z_orF, z_orT, z_orVF, z_orVT, z_pI, z_paB, z_paK, z_paK2, z_pkK, z_puB, z_puK, z_putI, z_putM, z_putO, z_putV, z_r1K, z_r2K, z_r2K2, z_rdB, z_rdK, z_rdK2, z_rdM, z_reK, z_ret, z_retI, z_retN, z_rg1, z_rg2, z_rgI1, z_rgI2, z_rtV, z_saI, z_saO, z_seqB, z_seqC, z_seqN, z_seqR, z_sl, z_slK, z_slK2, z_slK3, z_slice, z_suB, z_suK, z_tK, z_tO, z_tV, z_tbK, z_tnK, z_truB, z_truI, z_truK, z_truL, z_truN, z_truT, z_tst, z_tuK, z_tupL, z_tupT, z_unK, z_vO, z_vS, z_vV, z_vals, z_vals0, z_wpB, z_wpO, z_yes, List.set_cons_zero, List.set_cons_succ, List.getElem?_cons_zero, List.getElem?_cons_succ, List.length_cons, List.length_nil, Bool.not_true, Bool.not_false, if_true, if_false, Bool.false_eq_true, reduceCtorEq, and_self, and_true, true_and, y_addI, y_sub, y_lt, y_gt, y_le, y_ge, y_neg, y_eqI, y_neI, Nat.reduceAdd, Nat.reduceLT, Nat.reduceLeDiff, decide_eq_true_eq, sz, Nat.zero_le, dn_len, List.isEmpty_cons, List.isEmpty_nil, List.cons_append, List.nil_append, List.all_cons, List.all_nil, Bool.and_true, Bool.true_and, Bool.and_self, ht, decide_eq_false hr, rg, min8, ht2]
        refine while_P (fun m e => ∃ (ds : List Da) (row : List Nat) (a len : Nat) (t8 t9 t10 : Sl), e = [.io ds, .val (.int (w : Int)), .val (.int (n : Int)), .own (dn []), .own (dn order), .own (dn row), .val (.int (a : Int)), .val (.int (len : Int)), t8, t9, t10] ∧ m = n - a ∧ a ≤ n ∧ 1 ≤ len ∧ DrawOk ds ∧ row.length = n ∧ rowInv order row a n)
          (m := n) (by omega) ⟨ds2, List.range n, 0, 1 + r2.toNat, .no, .no, .no, ?_, rfl, by omega, by omega, D2, List.length_range, ?_⟩ fun m e h => ?_
        · have : (1 : Int) + r2 = ((1 + r2.toNat : Nat) : Int) := by omega
          rw [this]
          rfl
        · refine ⟨fun i _ hi => ?_, List.Perm.refl _⟩
          have hx := ho.lt hi
          rw [List.getD_eq_getElem?_getD (l := List.range n), List.getElem?_range hx]
          rfl
        · obtain ⟨ds, row, a, len, t8, t9, t10, rfl, rfl, ha, hlen1, D, hrow, hinv⟩ := h
          refine ⟨decide ((a : Int) < n), _, by simp only [z_And, z_AndV, z_Args, z_Args0, z_Asg, z_BV, z_Bin, z_Break, z_C, z_CallB, z_Chain, z_Comp, z_Cont, z_DGet, z_DIn, z_DPut, z_Enum, z_Expr, z_For, z_Group, z_If, z_It, z_List, z_Meth, z_NewK, z_NewT, z_Next, z_Nm, z_NoP, z_Not, z_Op, z_Or, z_OrV, z_P, z_Par, z_Pass, z_Pk, z_Read, z_Ret, z_RetN, z_Rg1, z_Rg2, z_SIf, z_Seq, z_Sl, z_Sub, z_TB, z_Take, z_Tru, z_Tu, z_Tup, z_Turn, z_Un, z_Var, z_abs, z_agK, z_andF, z_andT, z_andVF, z_andVT, z_apI, z_apO, z_app1, z_app2, z_appA, z_ar1, z_ar2, z_arK, z_arK2, z_argP, z_argS, z_argV, z_args, z_args0, z_asK, z_asK2, z_atI, z_atK, z_atO, z_atV, z_augE, z_augF, z_binK, z_binK2, z_bvK, z_callE, z_cbK, z_chK, z_chK2, z_chain2, z_chnF, z_chnT, z_clB, z_clK, z_coK, z_dgK, z_dgK2, z_dget, z_diK, z_diK2, z_din, z_dispL, z_dispT, z_dvget, z_exK, z_exc, z_go, z_go0, z_goK, z_gotD, z_gotIn, z_grK, z_ifF, z_ifT, z_ifVF, z_ifVT, z_int, z_intB, z_io0, z_ioP, z_ioS, z_ioV, z_isL, z_isO, z_itE, z_itL, z_itS, z_itT, z_kpO, z_kpV, z_lenL, z_lenT, z_liK, z_lisL, z_lisT, z_lkK, z_look0, z_look1, z_lookD, z_lookDK, z_lookP, z_lookV, z_mCall, z_meB, z_meI, z_meK, z_meO, z_meR, z_no, z_notK, z_npK, z_npO, z_npS, z_npV, z_ok, z_one0, z_oneP, z_oneS, z_oneV, z_opO, z_opP, z_opS, z_opV, z_orF, z_orT, z_orVF, z_orVT, z_pI, z_paB, z_paK, z_paK2, z_pkK, z_puB, z_puK, z_putI, z_putM, z_putO, z_putV, z_r1K, z_r2K, z_r2K2, z_rdB, z_rdK, z_rdK2, z_rdM, z_reK, z_ret, z_retI, z_retN, z_rg1, z_rg2, z_rgI1, z_rgI2, z_rtV, z_saI, z_saO, z_seqB, z_seqC, z_seqN, z_seqR, z_sl, z_slK, z_slK2, z_slK3, z_slice, z_suB, z_suK, z_tK, z_tO, z_tV, z_tbK, z_tnK, z_truB, z_truI, z_truK, z_truL, z_truN, z_truT, z_tst, z_tuK, z_tupL, z_tupT, z_unK, z_vO, z_vS, z_vV, z_vals, z_vals0, z_wpB, z_wpO, z_yes, List.set_cons_zero, List.set_cons_succ, List.getElem?_cons_zero, List.getElem?_cons_succ, List.length_cons, List.length_nil, Bool.not_true, Bool.not_false, if_true, if_false, Bool.false_eq_true, reduceCtorEq, and_self, and_true, true_and, y_addI, y_sub, y_lt, y_gt, y_le, y_ge, y_neg, y_eqI, y_neI, Nat.reduceAdd, Nat.reduceLT, Nat.reduceLeDiff, decide_eq_true_eq, sz, Nat.zero_le, dn_len, List.isEmpty_cons, List.isEmpty_nil, List.cons_append, List.nil_append, List.all_cons, List.all_nil, Bool.and_true, Bool.true_and, Bool.and_self]; rfl, fun hc => ?_, fun hc => ?_⟩
          · have ha2 : a < n := by have := of_decide_eq_true hc; omega
            let many := min len (n - a)
            have hm1 : 1 ≤ many := by show 1 ≤ min len (n - a); omega
            have hm2 : a + many ≤ n := by show a + min len (n - a) ≤ n; omega
            let ring := (order.drop a).take many
            have rl : ring.length = many := by show ((order.drop a).take many).length = many; rw [List.length_take, List.length_drop, hol]; omega
            have e2 : (n : Int) - (a : Int) = ((n - a : Nat) : Int) := by omega
            have e3 : (a : Int) + ((min len (n - a) : Nat) : Int) = ((a + many : Nat) : Int) := by show _ = ((a + min len (n - a) : Nat) : Int); omega
            have e4 : fSl (.list (dn order)) (some (a : Int)) (some ((a + many : Nat) : Int)) = some (.own (dn ring)) := by
              rw [slN (by omega) (by omega)]
              show some (Sl.own (dn ((order.drop a).take (a + many - a)))) = some (Sl.own (dn ((order.drop a).take many)))
              rw [Nat.add_sub_cancel_left]
            have e5 : ∀ e : VE, rgI 0 ((min len (n - a) : Nat) : Int) e = .ok (dn (List.range many)) e := fun e => rgIt rfl (by show min len (n - a) ≤ 1000000; omega)
            simp only [z_And, z_AndV, z_Args, z_Args0, z_Asg, z_BV, z_Bin, z_Break, z_C, z_CallB, z_Chain, z_Comp, z_Cont, z_DGet, z_DIn, z_DPut, z_Enum, z_Expr, z_For, z_Group, z_If, z_It, z_List, z_Meth, z_NewK, z_NewT, z_Next, z_Nm, z_NoP, z_Not, z_Op, z_Or, z_OrV, z_P, z_Par, z_Pass, z_Pk, z_Read, z_Ret, z_RetN, z_Rg1, z_Rg2, z_SIf, z_Seq, z_Sl, z_Sub, z_TB, z_Take, z_Tru, z_Tu, z_Tup, z_Turn, z_Un, z_Var, z_abs, z_agK, z_andF, z_andT, z_andVF, z_andVT, z_apI, z_apO, z_app1, z_app2, z_appA, z_ar1, z_ar2, z_arK, z_arK2, z_argP, z_argS, z_argV, z_args, z_args0, z_asK, z_asK2, z_atI, z_atK, z_atO, z_atV, z_augE, z_augF, z_binK, z_binK2, z_bvK, z_callE, z_cbK, z_chK, z_chK2, z_chain2, z_chnF, z_chnT, z_clB, z_clK, z_coK, z_dgK, z_dgK2, z_dget, z_diK, z_diK2, z_din, z_dispL, z_dispT, z_dvget, z_exK, z_exc, z_go, z_go0, z_goK, z_gotD, z_gotIn, z_grK, z_ifF, z_ifT, z_ifVF, z_ifVT, z_int, z_intB, z_io0, z_ioP, z_ioS, z_ioV, z_isL, z_isO, z_itE, z_itL, z_itS, z_itT, z_kpO, z_kpV, z_lenL, z_lenT, z_liK, z_lisL, z_lisT, z_lkK, z_look0, z_look1, z_lookD, z_lookDK, z_lookP, z_lookV, z_mCall, z_meB, z_meI, z_meK, z_meO, z_meR, z_no, z_notK, z_npK, z_npO, z_npS, z_npV, z_ok, z_one0, z_oneP, z_oneS, z_oneV, z_opO, z_opP, z_opS, z_opV, z_orF, z_orT, z_orVF, z_orVT, z_pI, z_paB, z_paK, z_paK2, z_pkK, z_puB, z_puK, z_putI, z_putM, z_putO, z_putV, z_r1K, z_r2K, z_r2K2, z_rdB, z_rdK, z_rdK2, z_rdM, z_reK, z_ret, z_retI, z_retN, z_rg1, z_rg2, z_rgI1, z_rgI2, z_rtV, z_saI, z_saO, z_seqB, z_seqC, z_seqN, z_seqR, z_sl, z_slK, z_slK2, z_slK3, z_slice, z_suB, z_suK, z_tK, z_tO, z_tV, z_tbK, z_tnK, z_truB, z_truI, z_truK, z_truL, z_truN, z_truT, z_tst, z_tuK, z_tupL, z_tupT, z_unK, z_vO, z_vS, z_vV, z_vals, z_vals0, z_wpB, z_wpO, z_yes, List.set_cons_zero, List.set_cons_succ, List.getElem?_cons_zero, List.getElem?_cons_succ, List.length_cons, List.length_nil, Bool.not_true, Bool.not_false, if_true, if_false, Bool.false_eq_true, reduceCtorEq, and_self, and_true, true_and, y_addI, y_sub, y_lt, y_gt, y_le, y_ge, y_neg, y_eqI, y_neI, Nat.reduceAdd, Nat.reduceLT, Nat.reduceLeDiff, decide_eq_true_eq, sz, Nat.zero_le, dn_len, List.isEmpty_cons, List.isEmpty_nil, List.cons_append, List.nil_append, List.all_cons, List.all_nil, Bool.and_true, Bool.true_and, Bool.and_self, e2, minN, e3, e4, e5]
            refine forL_P (fun k e => ∃ (row' : List Nat) (t10 : Sl), e = [.io ds, .val (.int (w : Int)), .val (.int (n : Int)), .own (dn []), .own (dn order), .own (dn row'), .val (.int (a : Int)), .val (.int (len : Int)), .val (.int ((min len (n - a) : Nat) : Int)), .own (dn ring), t10] ∧ row'.length = n ∧
                (∀ x, x ∉ ring.take k → row'.getD x 0 = row.getD x 0) ∧ ∀ i, i < k → row'.getD (ring.getD i 0) 0 = ring.getD ((i + 1) % many) 0) (fun k d e hd hI => ?_) (fun e hI => ?_) ⟨row, t10, rfl, hrow, fun _ _ => rfl, fun i hi => absurd hi (Nat.not_lt_zero _)⟩
            · obtain ⟨row', t10, rfl, hr', h1, h2⟩ := hI
              have hk : k < many := by
                have := (List.getElem?_eq_some_iff.mp hd).1
                rw [dn_len, List.length_range] at this
                exact this
              have hdk : d = .int (k : Int) := by
                rw [dn_at (by rw [List.length_range]; exact hk)] at hd
                rw [List.getD_eq_getElem?_getD, List.getElem?_range hk] at hd
                exact (Option.some.inj hd).symm
              subst hdk
              have i1 := ixL (p := ring) (i := (k : Int)) (j := k) rfl (by rw [rl]; exact hk)
              have hx : ring.getD k 0 < n := by
                have := ho.lt (i := a + k) (by omega)
                show ((order.drop a).take many).getD k 0 < n
                rw [getD_take hk, getD_drop]
                exact this
              have i2 : ixN row'.length ((ring.getD k 0 : Nat) : Int) = some (ring.getD k 0) := ixN_nat rfl (by rw [hr']; exact hx)
              have fin : ∀ v : Nat, v = ring.getD ((k + 1) % many) 0 → ∃ (row2 : List Nat) (t : Sl), [Sl.io ds, .val (.int (w : Int)), .val (.int (n : Int)), .own (dn []), .own (dn order), .own (dn (row'.set (ring.getD k 0) v)), .val (.int (a : Int)), .val (.int (len : Int)), .val (.int ((min len (n - a) : Nat) : Int)), .own (dn ring), .val (.int (k : Int))] = [.io ds, .val (.int (w : Int)), .val (.int (n : Int)), .own (dn []), .own (dn order), .own (dn row2), .val (.int (a : Int)), .val (.int (len : Int)), .val (.int ((min len (n - a) : Nat) : Int)), .own (dn ring), t] ∧ row2.length = n ∧
                (∀ x, x ∉ ring.take (k + 1) → row2.getD x 0 = row.getD x 0) ∧ ∀ i, i < k + 1 → row2.getD (ring.getD i 0) 0 = ring.getD ((i + 1) % many) 0 := fun v hv => by
                refine ⟨_, _, rfl, by rw [List.length_set]; exact hr', fun x hx2 => ?_, fun i hi => ?_⟩
                · have nx : ring.getD k 0 ≠ x := fun z => hx2 (by
                    rw [← z]
                    have := getD_mem (p := ring.take (k + 1)) (i := k) (by rw [List.length_take, rl]; omega)
                    rwa [getD_take (by omega)] at this)
                  rw [getD_set, if_neg (fun z => nx z.1)]
                  exact h1 x fun z => hx2 ((List.take_prefix_take_left (by omega)).subset z)
                · by_cases hik : i = k
                  · subst hik
                    rw [getD_set, if_pos ⟨rfl, by rw [hr']; exact hx⟩, hv]
                  · have hne : ring.getD k 0 ≠ ring.getD i 0 := fun z => by
                      have hnd : ring.Nodup := (ho.nd.sublist (List.drop_sublist a order)).sublist (List.take_sublist many _)
                      have := getD_inj hnd (by rw [rl]; exact hk) (by rw [rl]; omega) z
                      omega
                    rw [getD_set, if_neg (fun z => hne z.1)]
                    exact h2 i (by omega)
              by_cases hlast : k + 1 < many
              · have i3 := ixL (p := ring) (i := (k : Int) + 1) (j := k + 1) (by omega) (by rw [rl]; exact hlast)
                have c1 : ((k : Int) + 1 < ((min len (n - a) : Nat) : Int)) := by show (k : Int) + 1 < ((many : Nat) : Int); omega
                simp only [z_And, z_AndV, z_Args, z_Args0, z_Asg, z_BV, z_Bin, z_Break, z_C, z_CallB, z_Chain, z_Comp, z_Cont, z_DGet, z_DIn, z_DPut, z_Enum, z_Expr, z_For, z_Group, z_If, z_It, z_List, z_Meth, z_NewK, z_NewT, z_Next, z_Nm, z_NoP, z_Not, z_Op, z_Or, z_OrV, z_P, z_Par, z_Pass, z_Pk, z_Read, z_Ret, z_RetN, z_Rg1, z_Rg2, z_SIf, z_Seq, z_Sl, z_Sub, z_TB, z_Take, z_Tru, z_Tu, z_Tup, z_Turn, z_Un, z_Var, z_abs, z_agK, z_andF, z_andT, z_andVF, z_andVT, z_apI, z_apO, z_app1, z_app2, z_appA, z_ar1, z_ar2, z_arK, z_arK2, z_argP, z_argS, z_argV, z_args, z_args0, z_asK, z_asK2, z_atI, z_atK, z_atO, z_atV, z_augE, z_augF, z_binK, z_binK2, z_bvK, z_callE, z_cbK, z_chK, z_chK2, z_chain2, z_chnF, z_chnT, z_clB, z_clK, z_coK, z_dgK, z_dgK2, z_dget, z_diK, z_diK2, z_din, z_dispL, z_dispT, z_dvget, z_exK, z_exc, z_go, z_go0, z_goK, z_gotD, z_gotIn, z_grK, z_ifF, z_ifT, z_ifVF, z_ifVT, z_int, z_intB, z_io0, z_ioP, z_ioS, z_ioV, z_isL, z_isO, z_itE, z_itL, z_itS, z_itT, z_kpO, z_kpV, z_lenL, z_lenT, z_liK, z_lisL, z_lisT, z_lkK, z_look0, z_look1, z_lookD, z_lookDK, z_lookP, z_lookV, z_mCall, z_meB, z_meI, z_meK, z_meO, z_meR, z_no, z_notK, z_npK, z_npO, z_npS, z_npV, z_ok, z_one0, z_oneP, z_oneS, z_oneV, z_opO, z_opP, z_opS, z_opV, z_orF, z_orT, z_orVF, z_orVT, z_pI, z_paB, z_paK, z_paK2, z_pkK, z_puB, z_puK, z_putI, z_putM, z_putO, z_putV, z_r1K, z_r2K, z_r2K2, z_rdB, z_rdK, z_rdK2, z_rdM, z_reK, z_ret, z_retI, z_retN, z_rg1, z_rg2, z_rgI1, z_rgI2, z_rtV, z_saI, z_saO, z_seqB, z_seqC, z_seqN, z_seqR, z_sl, z_slK, z_slK2, z_slK3, z_slice, z_suB, z_suK, z_tK, z_tO, z_tV, z_tbK, z_tnK, z_truB, z_truI, z_truK, z_truL, z_truN, z_truT, z_tst, z_tuK, z_tupL, z_tupT, z_unK, z_vO, z_vS, z_vV, z_vals, z_vals0, z_wpB, z_wpO, z_yes, List.set_cons_zero, List.set_cons_succ, List.getElem?_cons_zero, List.getElem?_cons_succ, List.length_cons, List.length_nil, Bool.not_true, Bool.not_false, if_true, if_false, Bool.false_eq_true, reduceCtorEq, and_self, and_true, true_and, y_addI, y_sub, y_lt, y_gt, y_le, y_ge, y_neg, y_eqI, y_neI, Nat.reduceAdd, Nat.reduceLT, Nat.reduceLeDiff, decide_eq_true_eq, sz, Nat.zero_le, dn_len, List.isEmpty_cons, List.isEmpty_nil, List.cons_append, List.nil_append, List.all_cons, List.all_nil, Bool.and_true, Bool.true_and, Bool.and_self, decide_eq_true c1, i1, i2, i3, dI, dn_setI]
                refine fin _ ?_
                rw [Nat.mod_eq_of_lt hlast]
              · have i3 := ixL (p := ring) (i := 0) (j := 0) rfl (by rw [rl]; omega)
                have c1 : ¬ ((k : Int) + 1 < ((min len (n - a) : Nat) : Int)) := by show ¬ (k : Int) + 1 < ((many : Nat) : Int); omega
                simp only [z_And, z_AndV, z_Args, z_Args0, z_Asg, z_BV, z_Bin, z_Break, z_C, z_CallB, z_Chain, z_Comp, z_Cont, z_DGet, z_DIn, z_DPut, z_Enum, z_Expr, z_For, z_Group, z_If, z_It, z_List, z_Meth, z_NewK, z_NewT, z_Next, z_Nm, z_NoP, z_Not, z_Op, z_Or, z_OrV, z_P, z_Par, z_Pass, z_Pk, z_Read, z_Ret, z_RetN, z_Rg1, z_Rg2, z_SIf, z_Seq, z_Sl, z_Sub, z_TB, z_Take, z_Tru, z_Tu, z_Tup, z_Turn, z_Un, z_Var, z_abs, z_agK, z_andF, z_andT, z_andVF, z_andVT, z_apI, z_apO, z_app1, z_app2, z_appA, z_ar1, z_ar2, z_arK, z_arK2, z_argP, z_argS, z_argV, z_args, z_args0, z_asK, z_asK2, z_atI, z_atK, z_atO, z_atV, z_augE, z_augF, z_binK, z_binK2, z_bvK, z_callE, z_cbK, z_chK, z_chK2, z_chain2, z_chnF, z_chnT, z_clB, z_clK, z_coK, z_dgK, z_dgK2, z_dget, z_diK, z_diK2, z_din, z_dispL, z_dispT, z_dvget, z_exK, z_exc, z_go, z_go0, z_goK, z_gotD, z_gotIn, z_grK, z_ifF, z_ifT, z_ifVF, z_ifVT, z_int, z_intB, z_io0, z_ioP, z_ioS, z_ioV, z_isL, z_isO, z_itE, z_itL, z_itS, z_itT, z_kpO, z_kpV, z_lenL, z_lenT, z_liK, z_lisL, z_lisT, z_lkK, z_look0, z_look1, z_lookD, z_lookDK, z_lookP, z_lookV, z_mCall, z_meB, z_meI, z_meK, z_meO, z_meR, z_no, z_notK, z_npK, z_npO, z_npS, z_npV, z_ok, z_one0, z_oneP, z_oneS, z_oneV, z_opO, z_opP, z_opS, z_opV, z_orF, z_orT, z_orVF, z_orVT, z_pI, z_paB, z_paK, z_paK2, z_pkK, z_puB, z_puK, z_putI, z_putM, z_putO, z_putV, z_r1K, z_r2K, z_r2K2, z_rdB, z_rdK, z_rdK2, z_rdM, z_reK, z_ret, z_retI, z_retN, z_rg1, z_rg2, z_rgI1, z_rgI2, z_rtV, z_saI, z_saO, z_seqB, z_seqC, z_seqN, z_seqR, z_sl, z_slK, z_slK2, z_slK3, z_slice, z_suB, z_suK, z_tK, z_tO, z_tV, z_tbK, z_tnK, z_truB, z_truI, z_truK, z_truL, z_truN, z_truT, z_tst, z_tuK, z_tupL, z_tupT, z_unK, z_vO, z_vS, z_vV, z_vals, z_vals0, z_wpB, z_wpO, z_yes, List.set_cons_zero, List.set_cons_succ, List.getElem?_cons_zero, List.getElem?_cons_succ, List.length_cons, List.length_nil, Bool.not_true, Bool.not_false, if_true, if_false, Bool.false_eq_true, reduceCtorEq, and_self, and_true, true_and, y_addI, y_sub, y_lt, y_gt, y_le, y_ge, y_neg, y_eqI, y_neI, Nat.reduceAdd, Nat.reduceLT, Nat.reduceLeDiff, decide_eq_true_eq, sz, Nat.zero_le, dn_len, List.isEmpty_cons, List.isEmpty_nil, List.cons_append, List.nil_append, List.all_cons, List.all_nil, Bool.and_true, Bool.true_and, Bool.and_self, decide_eq_false c1, i1, i2, i3, dI, dn_setI]
                refine fin _ ?_
                have : k + 1 = many := by omega
                rw [this, Nat.mod_self]
            · obtain ⟨row', t10, rfl, hr', h1, h2⟩ := hI
              rw [dn_len, List.length_range] at h2
              have h1' : ∀ x, x ∉ ring → row'.getD x 0 = row.getD x 0 := fun x hx => h1 x (by rw [dn_len, List.length_range, List.take_of_length_le (by rw [rl]; exact Nat.le_refl _)]; exact hx)
              have hstep := row_step ho hinv hm1 hm2 h1' h2
              obtain ⟨r3, ds3, ht3, r30, r31, D3⟩ := take_ok (many := 3) D (by omega) (by omega)
              by_cases hz : r3 = 0
              · obtain ⟨r4, ds4, ht4, r40, r41, D4⟩ := take_ok (many := ((min n 6 : Nat) : Int)) D3 (by omega) (by omega)
                have e6 : (1 : Int) + r4 = ((1 + r4.toNat : Nat) : Int) := by omega
                simp only [z_And, z_AndV, z_Args, z_Args0, z_Asg, z_BV, z_Bin, z_Break, z_C, z_CallB, z_Chain, z_Comp, z_Cont, z_DGet, z_DIn, z_DPut, z_Enum, z_Expr, z_For, z_Group, z_If, z_It, z_List, z_Meth, z_NewK, z_NewT, z_Next, z_Nm, z_NoP, z_Not, z_Op, z_Or, z_OrV, z_P, z_Par, z_Pass, z_Pk, z_Read, z_Ret, z_RetN, z_Rg1, z_Rg2, z_SIf, z_Seq, z_Sl, z_Sub, z_TB, z_Take, z_Tru, z_Tu, z_Tup, z_Turn, z_Un, z_Var, z_abs, z_agK, z_andF, z_andT, z_andVF, z_andVT, z_apI, z_apO, z_app1, z_app2, z_appA, z_ar1, z_ar2, z_arK, z_arK2, z_argP, z_argS, z_argV, z_args, z_args0, z_asK, z_asK2, z_atI, z_atK, z_atO, z_atV, z_augE, z_augF, z_binK, z_binK2, z_bvK, z_callE, z_cbK, z_chK, z_chK2, z_chain2, z_chnF, z_chnT, z_clB, z_clK, z_coK, z_dgK, z_dgK2, z_dget, z_diK, z_diK2, z_din, z_dispL, z_dispT, z_dvget, z_exK, z_exc, z_go, z_go0, z_goK, z_gotD, z_gotIn, z_grK, z_ifF, z_ifT, z_ifVF, z_ifVT, z_int, z_intB, z_io0, z_ioP, z_ioS, z_ioV, z_isL, z_isO, z_itE, z_itL, z_itS, z_itT, z_kpO, z_kpV, z_lenL, z_lenT, z_liK, z_lisL, z_lisT, z_lkK, z_look0, z_look1, z_lookD, z_lookDK, z_lookP, z_lookV, z_mCall, z_meB, z_meI, z_meK, z_meO, z_meR, z_no, z_notK, z_npK, z_npO, z_npS, z_npV, z_ok, z_one0, z_oneP, z_oneS, z_oneV, z_opO, z_opP, z_opS, z_opV, z_orF, z_orT, z_orVF, z_orVT, z_pI, z_paB, z_paK, z_paK2, z_pkK, z_puB, z_puK, z_putI, z_putM, z_putO, z_putV, z_r1K, z_r2K, z_r2K2, z_rdB, z_rdK, z_rdK2, z_rdM, z_reK, z_ret, z_retI, z_retN, z_rg1, z_rg2, z_rgI1, z_rgI2, z_rtV, z_saI, z_saO, z_seqB, z_seqC, z_seqN, z_seqR, z_sl, z_slK, z_slK2, z_slK3, z_slice, z_suB, z_suK, z_tK, z_tO, z_tV, z_tbK, z_tnK, z_truB, z_truI, z_truK, z_truL, z_truN, z_truT, z_tst, z_tuK, z_tupL, z_tupT, z_unK, z_vO, z_vS, z_vV, z_vals, z_vals0, z_wpB, z_wpO, z_yes, List.set_cons_zero, List.set_cons_succ, List.getElem?_cons_zero, List.getElem?_cons_succ, List.length_cons, List.length_nil, Bool.not_true, Bool.not_false, if_true, if_false, Bool.false_eq_true, reduceCtorEq, and_self, and_true, true_and, y_addI, y_sub, y_lt, y_gt, y_le, y_ge, y_neg, y_eqI, y_neI, Nat.reduceAdd, Nat.reduceLT, Nat.reduceLeDiff, decide_eq_true_eq, sz, Nat.zero_le, dn_len, List.isEmpty_cons, List.isEmpty_nil, List.cons_append, List.nil_append, List.all_cons, List.all_nil, Bool.and_true, Bool.true_and, Bool.and_self, ht3, decide_eq_true hz, min8, ht4, e3, e6]
                exact ⟨n - (a + many), by omega, ds4, row', a + many, 1 + r4.toNat, _, _, _, rfl, rfl, hm2, by omega, D4, hr', hstep⟩
              · simp only [z_And, z_AndV, z_Args, z_Args0, z_Asg, z_BV, z_Bin, z_Break, z_C, z_CallB, z_Chain, z_Comp, z_Cont, z_DGet, z_DIn, z_DPut, z_Enum, z_Expr, z_For, z_Group, z_If, z_It, z_List, z_Meth, z_NewK, z_NewT, z_Next, z_Nm, z_NoP, z_Not, z_Op, z_Or, z_OrV, z_P, z_Par, z_Pass, z_Pk, z_Read, z_Ret, z_RetN, z_Rg1, z_Rg2, z_SIf, z_Seq, z_Sl, z_Sub, z_TB, z_Take, z_Tru, z_Tu, z_Tup, z_Turn, z_Un, z_Var, z_abs, z_agK, z_andF, z_andT, z_andVF, z_andVT, z_apI, z_apO, z_app1, z_app2, z_appA, z_ar1, z_ar2, z_arK, z_arK2, z_argP, z_argS, z_argV, z_args, z_args0, z_asK, z_asK2, z_atI, z_atK, z_atO, z_atV, z_augE, z_augF, z_binK, z_binK2, z_bvK, z_callE, z_cbK, z_chK, z_chK2, z_chain2, z_chnF, z_chnT, z_clB, z_clK, z_coK, z_dgK, z_dgK2, z_dget, z_diK, z_diK2, z_din, z_dispL, z_dispT, z_dvget, z_exK, z_exc, z_go, z_go0, z_goK, z_gotD, z_gotIn, z_grK, z_ifF, z_ifT, z_ifVF, z_ifVT, z_int, z_intB, z_io0, z_ioP, z_ioS, z_ioV, z_isL, z_isO, z_itE, z_itL, z_itS, z_itT, z_kpO, z_kpV, z_lenL, z_lenT, z_liK, z_lisL, z_lisT, z_lkK, z_look0, z_look1, z_lookD, z_lookDK, z_lookP, z_lookV, z_mCall, z_meB, z_meI, z_meK, z_meO, z_meR, z_no, z_notK, z_npK, z_npO, z_npS, z_npV, z_ok, z_one0, z_oneP, z_oneS, z_oneV, z_opO, z_opP, z_opS, z_opV, z_orF, z_orT, z_orVF, z_orVT, z_pI, z_paB, z_paK, z_paK2, z_pkK, z_puB, z_puK, z_putI, z_putM, z_putO, z_putV, z_r1K, z_r2K, z_r2K2, z_rdB, z_rdK, z_rdK2, z_rdM, z_reK, z_ret, z_retI, z_retN, z_rg1, z_rg2, z_rgI1, z_rgI2, z_rtV, z_saI, z_saO, z_seqB, z_seqC, z_seqN, z_seqR, z_sl, z_slK, z_slK2, z_slK3, z_slice, z_suB, z_suK, z_tK, z_tO, z_tV, z_tbK, z_tnK, z_truB, z_truI, z_truK, z_truL, z_truN, z_truT, z_tst, z_tuK, z_tupL, z_tupT, z_unK, z_vO, z_vS, z_vV, z_vals, z_vals0, z_wpB, z_wpO, z_yes, List.set_cons_zero, List.set_cons_succ, List.getElem?_cons_zero, List.getElem?_cons_succ, List.length_cons, List.length_nil, Bool.not_true, Bool.not_false, if_true, if_false, Bool.false_eq_true, reduceCtorEq, and_self, and_true, true_and, y_addI, y_sub, y_lt, y_gt, y_le, y_ge, y_neg, y_eqI, y_neI, Nat.reduceAdd, Nat.reduceLT, Nat.reduceLeDiff, decide_eq_true_eq, sz, Nat.zero_le, dn_len, List.isEmpty_cons, List.isEmpty_nil, List.cons_append, List.nil_append, List.all_cons, List.all_nil, Bool.and_true, Bool.true_and, Bool.and_self, ht3, decide_eq_false hz, e3]
                exact ⟨n - (a + many), by omega, ds3, row', a + many, len, _, _, _, rfl, rfl, hm2, hlen1, D3, hr', hstep⟩
          · have ha2 : a = n := by have := of_decide_eq_false hc; omega
            subst ha2
            simp only [z_And, z_AndV, z_Args, z_Args0, z_Asg, z_BV, z_Bin, z_Break, z_C, z_CallB, z_Chain, z_Comp, z_Cont, z_DGet, z_DIn, z_DPut, z_Enum, z_Expr, z_For, z_Group, z_If, z_It, z_List, z_Meth, z_NewK, z_NewT, z_Next, z_Nm, z_NoP, z_Not, z_Op, z_Or, z_OrV, z_P, z_Par, z_Pass, z_Pk, z_Read, z_Ret, z_RetN, z_Rg1, z_Rg2, z_SIf, z_Seq, z_Sl, z_Sub, z_TB, z_Take, z_Tru, z_Tu, z_Tup, z_Turn, z_Un, z_Var, z_abs, z_agK, z_andF, z_andT, z_andVF, z_andVT, z_apI, z_apO, z_app1, z_app2, z_appA, z_ar1, z_ar2, z_arK, z_arK2, z_argP, z_argS, z_argV, z_args, z_args0, z_asK, z_asK2, z_atI, z_atK, z_atO, z_atV, z_augE, z_augF, z_binK, z_binK2, z_bvK, z_callE, z_cbK, z_chK, z_chK2, z_chain2, z_chnF, z_chnT, z_clB, z_clK, z_coK, z_dgK, z_dgK2, z_dget, z_diK, z_diK2, z_din, z_dispL, z_dispT, z_dvget, z_exK, z_exc, z_go, z_go0, z_goK, z_gotD, z_gotIn, z_grK, z_ifF, z_ifT, z_ifVF, z_ifVT, z_int, z_intB, z_io0, z_ioP, z_ioS, z_ioV, z_isL, z_isO, z_itE, z_itL, z_itS, z_itT, z_kpO, z_kpV, z_lenL, z_lenT, z_liK, z_lisL, z_lisT, z_lkK, z_look0, z_look1, z_lookD, z_lookDK, z_lookP, z_lookV, z_mCall, z_meB, z_meI, z_meK, z_meO, z_meR, z_no, z_notK, z_npK, z_npO, z_npS, z_npV, z_ok, z_one0, z_oneP, z_oneS, z_oneV, z_opO, z_opP, z_opS, z_opV, z_orF, z_orT, z_orVF, z_orVT, z_pI, z_paB, z_paK, z_paK2, z_pkK, z_puB, z_puK, z_putI, z_putM, z_putO, z_putV, z_r1K, z_r2K, z_r2K2, z_rdB, z_rdK, z_rdK2, z_rdM, z_reK, z_ret, z_retI, z_retN, z_rg1, z_rg2, z_rgI1, z_rgI2, z_rtV, z_saI, z_saO, z_seqB, z_seqC, z_seqN, z_seqR, z_sl, z_slK, z_slK2, z_slK3, z_slice, z_suB, z_suK, z_tK, z_tO, z_tV, z_tbK, z_tnK, z_truB, z_truI, z_truK, z_truL, z_truN, z_truT, z_tst, z_tuK, z_tupL, z_tupT, z_unK, z_vO, z_vS, z_vV, z_vals, z_vals0, z_wpB, z_wpO, z_yes, List.set_cons_zero, List.set_cons_succ, List.getElem?_cons_zero, List.getElem?_cons_succ, List.length_cons, List.length_nil, Bool.not_true, Bool.not_false, if_true, if_false, Bool.false_eq_true, reduceCtorEq, and_self, and_true, true_and, y_addI, y_sub, y_lt, y_gt, y_le, y_ge, y_neg, y_eqI, y_neI, Nat.reduceAdd, Nat.reduceLT, Nat.reduceLeDiff, decide_eq_true_eq, sz, Nat.zero_le, dn_len, List.isEmpty_cons, List.isEmpty_nil, List.cons_append, List.nil_append, List.all_cons, List.all_nil, Bool.and_true, Bool.true_and, Bool.and_self]
            exact ⟨row, ds, rfl, rfl, row_end ho hrow hinv, D⟩
  obtain ⟨r, io, h, p, ds', rfl, rfl, h2, h3⟩ := ok_of_P key
  exact ⟨p, ds', h, h2, h3⟩
end VP
namespace VP
open PySem VL L2
/-! ### rings -/
def RingOk (p r : List Nat) : Prop := r ≠ [] ∧ ∀ i, i < r.length → p.getD (r.getD i 0) 0 = r.getD ((i + 1) % r.length) 0
def lrs (R : List (List Nat)) : List Da := R.map fun r => PyData.list (dn r)
def metOf (L : List Nat) : List (Key × Da) := L.map fun (x : Nat) => (Sum.inl (x : Int), PyData.bool true)
theorem met_some : ∀ {L : List Nat} {k : Nat}, (valD (metOf L) (.inl (k : Int))).isSome = decide (k ∈ L)
  | [], k => rfl
  | x :: L, k => by
    show (if (Sum.inl (x : Int) : Key) = .inl (k : Int) then some (PyData.bool true) else valD (metOf L) (.inl (k : Int))).isSome = _
    by_cases h : x = k
    · subst h
      simp
    · have : ¬ (Sum.inl (x : Int) : Key) = .inl (k : Int) := fun z => h (by have := Sum.inl.inj z; omega)
      rw [if_neg this, met_some (L := L)]
      have h' : ¬ k = x := fun z => h z.symm
      simp [h']
theorem met_put {L : List Nat} {k : Nat} (h : k ∉ L) : putD (metOf L) (.inl (k : Int)) (.bool true) = metOf (L ++ [k]) := by
  unfold putD
  have : ((metOf L).any fun kv => decide (kv.1 = Sum.inl (k : Int))) = false := by
    rw [List.any_eq_false]
    intro kv hkv z
    obtain ⟨x, hx, rfl⟩ := List.mem_map.mp hkv
    have := Sum.inl.inj (of_decide_eq_true z)
    have e : x = k := by omega
    exact h (e ▸ hx)
  rw [this]
  show metOf L ++ [_] = _
  unfold metOf
  rw [List.map_append]
  rfl
theorem nd_len : ∀ {n : Nat} {l : List Nat}, l.Nodup → (∀ x ∈ l, x < n) → l.length ≤ n
  | 0, [], _, _ => Nat.le_refl _
  | 0, x :: l, _, h => absurd (h x List.mem_cons_self) (Nat.not_lt_zero _)
  | n + 1, l, nd, h => by
    by_cases hm : n ∈ l
    · have h1 := nd_len (n := n) (nd.erase n) fun x hx => by
        have h2 := (List.Nodup.mem_erase_iff nd).mp hx
        have h3 := h x h2.2
        have h4 := h2.1
        omega
      rw [List.length_erase_of_mem hm] at h1
      omega
    · have := nd_len (n := n) nd fun x hx => by
        have h3 := h x hx
        have h4 : x ≠ n := fun z => hm (z ▸ hx)
        omega
      omega
structure RingsOk (p : List Nat) (R : List (List Nat)) : Prop where
  ok : ∀ r ∈ R, RingOk p r
  nd : R.flatten.Nodup
  lt : ∀ x ∈ R.flatten, x < p.length
theorem RingOk.back {p r : List Nat} (h : RingOk p r) {y : Nat} (hy : y ∈ r) : ∃ x ∈ r, p.getD x 0 = y := by
  obtain ⟨j, hj, e⟩ := mem_getD hy
  have hl : 0 < r.length := by omega
  by_cases h0 : j = 0
  · refine ⟨r.getD (r.length - 1) 0, getD_mem (by omega), ?_⟩
    rw [h.2 _ (by omega)]
    have : r.length - 1 + 1 = r.length := by omega
    rw [this, Nat.mod_self, ← e, h0]
  · refine ⟨r.getD (j - 1) 0, getD_mem (by omega), ?_⟩
    rw [h.2 _ (by omega)]
    have : j - 1 + 1 = j := by omega
    rw [this, Nat.mod_eq_of_lt hj, e]
theorem RingsOk.back {p : List Nat} {R : List (List Nat)} (h : RingsOk p R) {y : Nat} (hy : y ∈ R.flatten) : ∃ x ∈ R.flatten, p.getD x 0 = y := by
  obtain ⟨r, hr, hyr⟩ := List.mem_flatten.mp hy
  obtain ⟨x, hx, e⟩ := (h.ok r hr).back hyr
  exact ⟨x, List.mem_flatten.mpr ⟨r, hr, hx⟩, e⟩
theorem perm_inj {p : List Nat} {n : Nat} (h : Perm0 p n) {i j : Nat} (hi : i < n) (hj : j < n) (e : p.getD i 0 = p.getD j 0) : i = j := getD_inj h.nd (by rw [h.len]; exact hi) (by rw [h.len]; exact hj) e
/-- a ring that grows -/
structure Grows (p : List Nat) (R : List (List Nat)) (k : Nat) (ring : List Nat) : Prop where
  ne : ring ≠ []
  hd : ring.getD 0 0 = k
  ch : ∀ i, i + 1 < ring.length → p.getD (ring.getD i 0) 0 = ring.getD (i + 1) 0
  nd : (R.flatten ++ ring).Nodup
  lt : ∀ x ∈ ring, x < p.length
theorem Grows.len {p : List Nat} {R : List (List Nat)} {k n : Nat} {ring : List Nat} (h : Grows p R k ring) (hp : Perm0 p n) (hR : RingsOk p R) : R.flatten.length + ring.length ≤ n := by
  have h1 := nd_len (n := n) h.nd fun x hx => by
    rcases List.mem_append.mp hx with hx | hx
    · rw [← hp.len]; exact hR.lt x hx
    · rw [← hp.len]; exact h.lt x hx
  rw [List.length_append] at h1
  exact h1
theorem Grows.step {p : List Nat} {R : List (List Nat)} {k n : Nat} {ring : List Nat} (h : Grows p R k ring) (hp : Perm0 p n) (hR : RingsOk p R) (hne : p.getD (ring.getD (ring.length - 1) 0) 0 ≠ k) :
    p.getD (ring.getD (ring.length - 1) 0) 0 ∉ R.flatten ++ ring ∧ Grows p R k (ring ++ [p.getD (ring.getD (ring.length - 1) 0) 0]) := by
  have hl := List.length_pos_iff.mpr h.ne
  have hlast : ring.getD (ring.length - 1) 0 ∈ ring := getD_mem (by omega)
  have hln : ring.getD (ring.length - 1) 0 < n := by rw [← hp.len]; exact h.lt _ hlast
  have hnd := List.nodup_append.mp h.nd
  have notin : p.getD (ring.getD (ring.length - 1) 0) 0 ∉ R.flatten ++ ring := fun hy => by
    rcases List.mem_append.mp hy with hy | hy
    · obtain ⟨x, hx, e⟩ := hR.back hy
      have := perm_inj hp (by rw [← hp.len]; exact hR.lt x hx) hln e
      rw [this] at hx
      exact hnd.2.2 _ hx _ hlast rfl
    · obtain ⟨j, hj, e⟩ := mem_getD hy
      by_cases h0 : j = 0
      · subst h0
        rw [h.hd] at e
        exact hne e.symm
      · have e2 := h.ch (j - 1) (by omega)
        have e3 : j - 1 + 1 = j := by omega
        rw [e3, e] at e2
        have := perm_inj hp (by rw [← hp.len]; exact h.lt _ (getD_mem (by omega))) hln e2
        have := getD_inj hnd.2.1 (by omega) (by omega) this
        omega
  refine ⟨notin, fun z => by simp at z, ?_, fun i hi => ?_, ?_, fun x hx => ?_⟩
  · rw [List.getD_eq_getElem?_getD, List.getElem?_append_left hl, ← List.getD_eq_getElem?_getD]
    exact h.hd
  · rw [List.length_append, List.length_singleton] at hi
    have e1 : (ring ++ [p.getD (ring.getD (ring.length - 1) 0) 0]).getD i 0 = ring.getD i 0 := by
      rw [List.getD_eq_getElem?_getD, List.getElem?_append_left (by omega), ← List.getD_eq_getElem?_getD]
    rw [e1]
    by_cases hc : i + 1 < ring.length
    · rw [List.getD_eq_getElem?_getD (l := ring ++ _), List.getElem?_append_left hc, ← List.getD_eq_getElem?_getD]
      exact h.ch i hc
    · have : i = ring.length - 1 := by omega
      subst this
      rw [List.getD_eq_getElem?_getD (l := ring ++ _), List.getElem?_append_right (by omega)]
      have : ring.length - 1 + 1 - ring.length = 0 := by omega
      rw [this]
      rfl
  · rw [← List.append_assoc]
    refine List.nodup_append.mpr ⟨h.nd, by simp, fun x hx y hy => ?_⟩
    rw [List.mem_singleton] at hy
    subst hy
    exact fun z => notin (z ▸ hx)
  · rcases List.mem_append.mp hx with hx | hx
    · exact h.lt x hx
    · rw [List.mem_singleton] at hx
      subst hx
      rw [hp.len]
      exact hp.lt hln
theorem Grows.close {p : List Nat} {R : List (List Nat)} {k : Nat} {ring : List Nat} (h : Grows p R k ring) (hR : RingsOk p R) (he : p.getD (ring.getD (ring.length - 1) 0) 0 = k) : RingsOk p (R ++ [ring]) := by
  have hl := List.length_pos_iff.mpr h.ne
  have fl : (R ++ [ring]).flatten = R.flatten ++ ring := by simp
  refine ⟨fun r hr => ?_, by rw [fl]; exact h.nd, fun x hx => ?_⟩
  · rcases List.mem_append.mp hr with hr | hr
    · exact hR.ok r hr
    · rw [List.mem_singleton] at hr
      subst hr
      refine ⟨h.ne, fun i hi => ?_⟩
      by_cases hc : i + 1 < r.length
      · rw [Nat.mod_eq_of_lt hc]
        exact h.ch i hc
      · have : i = r.length - 1 := by omega
        subst this
        have e3 : r.length - 1 + 1 = r.length := by omega
        rw [he, e3, Nat.mod_self, h.hd]
  · rw [fl] at hx
    rcases List.mem_append.mp hx with hx | hx
    · exact hR.lt x hx
    · exact h.lt x hx
end VP
namespace VP
open PySem VL L2
theorem lastL {ring : List Nat} (h : ring ≠ []) : fIx (.list (dn ring)) (.int (-1)) = some (.val (.int ((ring.getD (ring.length - 1) 0 : Nat) : Int))) :=
  have hl := List.length_pos_iff.mpr h
  ixLneg (by omega) (by omega) (by omega)
theorem ixTi {p : List Nat} {j : Nat} (h : j < p.length) : fIx (.tuple (dn p)) (.int (j : Int)) = some (.val (.int ((p.getD j 0 : Nat) : Int))) := ixT rfl h
theorem ixLi {p : List Nat} {j : Nat} (h : j < p.length) : fIx (.list (dn p)) (.int (j : Int)) = some (.val (.int ((p.getD j 0 : Nat) : Int))) := ixL rfl h
theorem met_len {L : List Nat} : (metOf L).length = L.length := by unfold metOf; rw [List.length_map]
theorem appI {p : List Nat} {x : Nat} (h : p.length ≤ 1000000) : fAppend (dn p) [.int (x : Int)] = some (.none, dn (p ++ [x])) := appN h
theorem flat_len : ∀ {R : List (List Nat)}, (∀ r ∈ R, r ≠ []) → R.length ≤ R.flatten.length
  | [], _ => Nat.le_refl _
  | r :: R, h => by
    have h1 := List.length_pos_iff.mpr (h r List.mem_cons_self)
    have h2 := flat_len (R := R) fun r' m => h r' (List.mem_cons_of_mem _ m)
    rw [List.flatten_cons, List.length_append, List.length_cons]
    omega
theorem rings_ok {p : List Nat} {n : Nat} (hp : Perm0 p n) (hn : n ≤ 1000) : ∃ R, fn_1 [.val (.tuple (dn p))] = .ok (.own (lrs R)) none ∧ RingsOk p R ∧ ∀ x, x ∈ R.flatten ↔ x < n := by
  have hpl := hp.len
  have key : WF (fn_1 [.val (.tuple (dn p))]) (fun r io => ∃ R, r = .own (lrs R) ∧ io = none ∧ RingsOk p R ∧ ∀ x, x ∈ R.flatten ↔ x < n) := by
    refine body_P rfl rfl ?_
    show WP (ms_1 [.val (.tuple (dn p)), .no, .no, .no, .no]) _
    have rg : ∀ e : VE, rgI 0 (p.length : Int) e = .ok (dn (List.range n)) e := fun e => by rw [hpl]; exact rgIt rfl (by omega)
    simp only [ms_1, z_And, z_AndV, z_Args, z_Args0, z_Asg, z_BV, z_Bin, z_Break, z_C, z_CallB, z_Chain, z_Comp, z_Cont, z_DGet, z_DIn, z_DPut, z_Enum, z_Expr, z_For, z_Group, z_If, z_It, z_List, z_Meth, z_NewK, z_NewT, z_Next, z_Nm, z_NoP, z_Not, z_Op, z_Or, z_OrV, z_P, z_Par, z_Pass, z_Pk, z_Read, z_Ret, z_RetN, z_Rg1, z_Rg2, z_SIf, z_Seq, z_Sl, z_Sub, z_TB, z_Take, z_Tru, z_Tu, z_Tup, z_Turn, z_Un, z_Var, z_abs, z_agK, z_andF, z_andT, z_andVF, z_andVT, z_apI, z_apO, z_app1, z_app2, z_appA, z_ar1, z_ar2, z_arK, z_arK2, z_argP, z_argS, z_argV, z_args, z_args0, z_asK, z_asK2, z_atI, z_atK, z_atO, z_atV, z_augE, z_augF, z_binK, z_binK2, z_bvK, z_callE, z_cbK, z_chK, z_chK2, z_chain2, z_chnF, z_chnT, z_clB, z_clK, z_coK, z_dgK, z_dgK2, z_dget, z_diK, z_diK2, z_din, z_dispL, z_dispT, z_dvget, z_exK, z_exc, z_go, z_go0, z_goK, z_gotD, z_gotIn, z_grK, z_ifF, z_ifT, z_ifVF, z_ifVT, z_int, z_intB, z_io0, z_ioP, z_ioS, z_ioV, z_isL, z_isO, z_itE, z_itL, z_itS, z_itT, z_kpO, z_kpV, z_lenL, z_lenT, z_liK, z_lisL, z_lisT, z_lkK, z_look0, z_look1, z_lookD, z_lookDK, z_lookP, z_lookV, z_mCall, z_meB, z_meI, z_meK, z_meO, z_meR, z_no, z_notK, z_npK, z_npO, z_npS, z_npV, z_ok, z_one0, z_oneP, z_oneS, z_oneV, z_opO, z_opP, z_opS, z_opV, z_orF, z_orT, z_orVF, z_orVT, z_pI, z_paB, z_paK, z_paK2, z_pkK, z_puB, z_puK, z_putI, z_putM, z_putO, z_putV, z_r1K, z_r2K, z_r2K2, z_rdB, z_rdK, z_rdK2, z_rdM, z_reK, z_ret, z_retI, z_retN, z_rg1, z_rg2, z_rgI1, z_rgI2, z_rtV, z_saI, z_saO, z_seqB, z_seqC, z_seqN, z_seqR, z_sl, z_slK, z_slK2, z_slK3, z_slice, z_suB, z_suK, z_tK, z_tO, z_tV, z_tbK, z_tnK, z_truB, z_truI, z_truK, z_truL, z_truN, z_truT, z_tst, z_tuK, z_tupL, z_tupT, z_unK, z_vO, z_vS, z_vV, z_vals, z_vals0, z_wpB, z_wpO, z_yes, List.set_cons_zero, List.set_cons_succ, List.getElem?_cons_zero, List.getElem?_cons_succ, List.length_cons, List.length_nil, Bool.not_true, Bool.not_false, if_true, if_false, Bool.false_eq_true, reduceCtorEq, and_self, and_true, true_and, y_addI, y_sub, y_lt, y_gt, y_le, y_ge, y_neg, y_eqI, y_neI, Nat.reduceAdd, Nat.reduceLT, Nat.reduceLeDiff, decide_eq_true_eq, sz, Nat.zero_le, dn_len, List.isEmpty_cons, List.isEmpty_nil, List.cons_append, List.nil_append, List.all_cons, List.all_nil, Bool.and_true, Bool.true_and, Bool.and_self, rg]
    refine forL_P (fun k e => ∃ R t3 t4, e = [.val (.tuple (dn p)), .odk (metOf R.flatten), .own (lrs R), t3, t4] ∧ RingsOk p R ∧ ∀ x, x < k → x ∈ R.flatten) (fun k d e hd hI => ?_) (fun e hI => ?_)
      ⟨[], .no, .no, rfl, ⟨(fun r h => nomatch h), List.nodup_nil, (fun x h => nomatch h)⟩, fun x h => absurd h (Nat.not_lt_zero _)⟩
    · obtain ⟨R, t3, t4, rfl, hR, hk⟩ := hI
      have hkn : k < n := by
        have := (List.getElem?_eq_some_iff.mp hd).1
        rw [dn_len, List.length_range] at this
        exact this
      have hdk : d = .int (k : Int) := by
        rw [dn_at (by rw [List.length_range]; exact hkn), List.getD_eq_getElem?_getD, List.getElem?_range hkn] at hd
        exact (Option.some.inj hd).symm
      subst hdk
      by_cases hm : k ∈ R.flatten
      · have e1 : (valD (metOf R.flatten) (.inl (k : Int))).isSome = true := by rw [met_some]; exact decide_eq_true hm
        simp only [z_And, z_AndV, z_Args, z_Args0, z_Asg, z_BV, z_Bin, z_Break, z_C, z_CallB, z_Chain, z_Comp, z_Cont, z_DGet, z_DIn, z_DPut, z_Enum, z_Expr, z_For, z_Group, z_If, z_It, z_List, z_Meth, z_NewK, z_NewT, z_Next, z_Nm, z_NoP, z_Not, z_Op, z_Or, z_OrV, z_P, z_Par, z_Pass, z_Pk, z_Read, z_Ret, z_RetN, z_Rg1, z_Rg2, z_SIf, z_Seq, z_Sl, z_Sub, z_TB, z_Take, z_Tru, z_Tu, z_Tup, z_Turn, z_Un, z_Var, z_abs, z_agK, z_andF, z_andT, z_andVF, z_andVT, z_apI, z_apO, z_app1, z_app2, z_appA, z_ar1, z_ar2, z_arK, z_arK2, z_argP, z_argS, z_argV, z_args, z_args0, z_asK, z_asK2, z_atI, z_atK, z_atO, z_atV, z_augE, z_augF, z_binK, z_binK2, z_bvK, z_callE, z_cbK, z_chK, z_chK2, z_chain2, z_chnF, z_chnT, z_clB, z_clK, z_coK, z_dgK, z_dgK2, z_dget, z_diK, z_diK2, z_din, z_dispL, z_dispT, z_dvget, z_exK, z_exc, z_go, z_go0, z_goK, z_gotD, z_gotIn, z_grK, z_ifF, z_ifT, z_ifVF, z_ifVT, z_int, z_intB, z_io0, z_ioP, z_ioS, z_ioV, z_isL, z_isO, z_itE, z_itL, z_itS, z_itT, z_kpO, z_kpV, z_lenL, z_lenT, z_liK, z_lisL, z_lisT, z_lkK, z_look0, z_look1, z_lookD, z_lookDK, z_lookP, z_lookV, z_mCall, z_meB, z_meI, z_meK, z_meO, z_meR, z_no, z_notK, z_npK, z_npO, z_npS, z_npV, z_ok, z_one0, z_oneP, z_oneS, z_oneV, z_opO, z_opP, z_opS, z_opV, z_orF, z_orT, z_orVF, z_orVT, z_pI, z_paB, z_paK, z_paK2, z_pkK, z_puB, z_puK, z_putI, z_putM, z_putO, z_putV, z_r1K, z_r2K, z_r2K2, z_rdB, z_rdK, z_rdK2, z_rdM, z_reK, z_ret, z_retI, z_retN, z_rg1, z_rg2, z_rgI1, z_rgI2, z_rtV, z_saI, z_saO, z_seqB, z_seqC, z_seqN, z_seqR, z_sl, z_slK, z_slK2, z_slK3, z_slice, z_suB, z_suK, z_tK, z_tO, z_tV, z_tbK, z_tnK, z_truB, z_truI, z_truK, z_truL, z_truN, z_truT, z_tst, z_tuK, z_tupL, z_tupT, z_unK, z_vO, z_vS, z_vV, z_vals, z_vals0, z_wpB, z_wpO, z_yes, List.set_cons_zero, List.set_cons_succ, List.getElem?_cons_zero, List.getElem?_cons_succ, List.length_cons, List.length_nil, Bool.not_true, Bool.not_false, if_true, if_false, Bool.false_eq_true, reduceCtorEq, and_self, and_true, true_and, y_addI, y_sub, y_lt, y_gt, y_le, y_ge, y_neg, y_eqI, y_neI, Nat.reduceAdd, Nat.reduceLT, Nat.reduceLeDiff, decide_eq_true_eq, sz, Nat.zero_le, dn_len, List.isEmpty_cons, List.isEmpty_nil, List.cons_append, List.nil_append, List.all_cons, List.all_nil, Bool.and_true, Bool.true_and, Bool.and_self, e1, Bool.bne_true, Bool.true_xor]
        refine ⟨R, _, _, rfl, hR, fun x hx => ?_⟩
        by_cases h : x = k
        · subst h; exact hm
        · exact hk x (by omega)
      · have e1 : (valD (metOf R.flatten) (.inl (k : Int))).isSome = false := by rw [met_some]; exact decide_eq_false hm
        have G0 : Grows p R k [k] := ⟨List.cons_ne_nil _ _, rfl, fun i hi => by simp at hi, List.nodup_append.mpr ⟨hR.nd, by simp, fun x hx y hy => by
          rw [List.mem_singleton] at hy
          subst hy
          exact fun z => hm (z ▸ hx)⟩, fun x hx => by rw [List.mem_singleton] at hx; subst hx; rw [hpl]; exact hkn⟩
        have hl0 := G0.len hp hR
        have hs0 : (metOf R.flatten).length < 16777216 := by rw [met_len]; rw [List.length_singleton] at hl0; omega
        simp only [z_And, z_AndV, z_Args, z_Args0, z_Asg, z_BV, z_Bin, z_Break, z_C, z_CallB, z_Chain, z_Comp, z_Cont, z_DGet, z_DIn, z_DPut, z_Enum, z_Expr, z_For, z_Group, z_If, z_It, z_List, z_Meth, z_NewK, z_NewT, z_Next, z_Nm, z_NoP, z_Not, z_Op, z_Or, z_OrV, z_P, z_Par, z_Pass, z_Pk, z_Read, z_Ret, z_RetN, z_Rg1, z_Rg2, z_SIf, z_Seq, z_Sl, z_Sub, z_TB, z_Take, z_Tru, z_Tu, z_Tup, z_Turn, z_Un, z_Var, z_abs, z_agK, z_andF, z_andT, z_andVF, z_andVT, z_apI, z_apO, z_app1, z_app2, z_appA, z_ar1, z_ar2, z_arK, z_arK2, z_argP, z_argS, z_argV, z_args, z_args0, z_asK, z_asK2, z_atI, z_atK, z_atO, z_atV, z_augE, z_augF, z_binK, z_binK2, z_bvK, z_callE, z_cbK, z_chK, z_chK2, z_chain2, z_chnF, z_chnT, z_clB, z_clK, z_coK, z_dgK, z_dgK2, z_dget, z_diK, z_diK2, z_din, z_dispL, z_dispT, z_dvget, z_exK, z_exc, z_go, z_go0, z_goK, z_gotD, z_gotIn, z_grK, z_ifF, z_ifT, z_ifVF, z_ifVT, z_int, z_intB, z_io0, z_ioP, z_ioS, z_ioV, z_isL, z_isO, z_itE, z_itL, z_itS, z_itT, z_kpO, z_kpV, z_lenL, z_lenT, z_liK, z_lisL, z_lisT, z_lkK, z_look0, z_look1, z_lookD, z_lookDK, z_lookP, z_lookV, z_mCall, z_meB, z_meI, z_meK, z_meO, z_meR, z_no, z_notK, z_npK, z_npO, z_npS, z_npV, z_ok, z_one0, z_oneP, z_oneS, z_oneV, z_opO, z_opP, z_opS, z_opV, z_orF, z_orT, z_orVF, z_orVT, z_pI, z_paB, z_paK, z_paK2, z_pkK, z_puB, z_puK, z_putI, z_putM, z_putO, z_putV, z_r1K, z_r2K, z_r2K2, z_rdB, z_rdK, z_rdK2, z_rdM, z_reK, z_ret, z_retI, z_retN, z_rg1, z_rg2, z_rgI1, z_rgI2, z_rtV, z_saI, z_saO, z_seqB, z_seqC, z_seqN, z_seqR, z_sl, z_slK, z_slK2, z_slK3, z_slice, z_suB, z_suK, z_tK, z_tO, z_tV, z_tbK, z_tnK, z_truB, z_truI, z_truK, z_truL, z_truN, z_truT, z_tst, z_tuK, z_tupL, z_tupT, z_unK, z_vO, z_vS, z_vV, z_vals, z_vals0, z_wpB, z_wpO, z_yes, List.set_cons_zero, List.set_cons_succ, List.getElem?_cons_zero, List.getElem?_cons_succ, List.length_cons, List.length_nil, Bool.not_true, Bool.not_false, if_true, if_false, Bool.false_eq_true, reduceCtorEq, and_self, and_true, true_and, y_addI, y_sub, y_lt, y_gt, y_le, y_ge, y_neg, y_eqI, y_neI, Nat.reduceAdd, Nat.reduceLT, Nat.reduceLeDiff, decide_eq_true_eq, sz, Nat.zero_le, dn_len, List.isEmpty_cons, List.isEmpty_nil, List.cons_append, List.nil_append, List.all_cons, List.all_nil, Bool.and_true, Bool.true_and, Bool.and_self, e1, Bool.true_xor, Bool.not_false, met_put hm, hs0]
        refine while_P (fun m e => ∃ ring, e = [.val (.tuple (dn p)), .odk (metOf (R.flatten ++ ring)), .own (lrs R), .val (.int (k : Int)), .own (dn ring)] ∧ m = n - ring.length ∧ Grows p R k ring) (m := n - 1) (by omega) ⟨[k], rfl, rfl, G0⟩ fun m e h => ?_
        obtain ⟨ring, rfl, rfl, G⟩ := h
        have hrl := List.length_pos_iff.mpr G.ne
        have hll := G.len hp hR
        have hlast : ring.getD (ring.length - 1) 0 < p.length := G.lt _ (getD_mem (by omega))
        refine ⟨!decide (((p.getD (ring.getD (ring.length - 1) 0) 0 : Nat) : Int) = (k : Int)), _, by simp only [z_And, z_AndV, z_Args, z_Args0, z_Asg, z_BV, z_Bin, z_Break, z_C, z_CallB, z_Chain, z_Comp, z_Cont, z_DGet, z_DIn, z_DPut, z_Enum, z_Expr, z_For, z_Group, z_If, z_It, z_List, z_Meth, z_NewK, z_NewT, z_Next, z_Nm, z_NoP, z_Not, z_Op, z_Or, z_OrV, z_P, z_Par, z_Pass, z_Pk, z_Read, z_Ret, z_RetN, z_Rg1, z_Rg2, z_SIf, z_Seq, z_Sl, z_Sub, z_TB, z_Take, z_Tru, z_Tu, z_Tup, z_Turn, z_Un, z_Var, z_abs, z_agK, z_andF, z_andT, z_andVF, z_andVT, z_apI, z_apO, z_app1, z_app2, z_appA, z_ar1, z_ar2, z_arK, z_arK2, z_argP, z_argS, z_argV, z_args, z_args0, z_asK, z_asK2, z_atI, z_atK, z_atO, z_atV, z_augE, z_augF, z_binK, z_binK2, z_bvK, z_callE, z_cbK, z_chK, z_chK2, z_chain2, z_chnF, z_chnT, z_clB, z_clK, z_coK, z_dgK, z_dgK2, z_dget, z_diK, z_diK2, z_din, z_dispL, z_dispT, z_dvget, z_exK, z_exc, z_go, z_go0, z_goK, z_gotD, z_gotIn, z_grK, z_ifF, z_ifT, z_ifVF, z_ifVT, z_int, z_intB, z_io0, z_ioP, z_ioS, z_ioV, z_isL, z_isO, z_itE, z_itL, z_itS, z_itT, z_kpO, z_kpV, z_lenL, z_lenT, z_liK, z_lisL, z_lisT, z_lkK, z_look0, z_look1, z_lookD, z_lookDK, z_lookP, z_lookV, z_mCall, z_meB, z_meI, z_meK, z_meO, z_meR, z_no, z_notK, z_npK, z_npO, z_npS, z_npV, z_ok, z_one0, z_oneP, z_oneS, z_oneV, z_opO, z_opP, z_opS, z_opV, z_orF, z_orT, z_orVF, z_orVT, z_pI, z_paB, z_paK, z_paK2, z_pkK, z_puB, z_puK, z_putI, z_putM, z_putO, z_putV, z_r1K, z_r2K, z_r2K2, z_rdB, z_rdK, z_rdK2, z_rdM, z_reK, z_ret, z_retI, z_retN, z_rg1, z_rg2, z_rgI1, z_rgI2, z_rtV, z_saI, z_saO, z_seqB, z_seqC, z_seqN, z_seqR, z_sl, z_slK, z_slK2, z_slK3, z_slice, z_suB, z_suK, z_tK, z_tO, z_tV, z_tbK, z_tnK, z_truB, z_truI, z_truK, z_truL, z_truN, z_truT, z_tst, z_tuK, z_tupL, z_tupT, z_unK, z_vO, z_vS, z_vV, z_vals, z_vals0, z_wpB, z_wpO, z_yes, List.set_cons_zero, List.set_cons_succ, List.getElem?_cons_zero, List.getElem?_cons_succ, List.length_cons, List.length_nil, Bool.not_true, Bool.not_false, if_true, if_false, Bool.false_eq_true, reduceCtorEq, and_self, and_true, true_and, y_addI, y_sub, y_lt, y_gt, y_le, y_ge, y_neg, y_eqI, y_neI, Nat.reduceAdd, Nat.reduceLT, Nat.reduceLeDiff, decide_eq_true_eq, sz, Nat.zero_le, dn_len, List.isEmpty_cons, List.isEmpty_nil, List.cons_append, List.nil_append, List.all_cons, List.all_nil, Bool.and_true, Bool.true_and, Bool.and_self, lastL G.ne, ixTi hlast]; rfl, fun hc => ?_, fun hc => ?_⟩
        · have hne : p.getD (ring.getD (ring.length - 1) 0) 0 ≠ k := fun z => by rw [z] at hc; simp at hc
          obtain ⟨g1, g2⟩ := G.step hp hR hne
          have g3 := g2.len hp hR
          rw [List.length_append, List.length_singleton] at g3
          have hs1 : (metOf (R.flatten ++ ring)).length < 16777216 := by rw [met_len, List.length_append]; omega
          have l2 := lastL g2.ne
          have e5 : (ring ++ [p.getD (ring.getD (ring.length - 1) 0) 0]).getD ((ring ++ [p.getD (ring.getD (ring.length - 1) 0) 0]).length - 1) 0 = p.getD (ring.getD (ring.length - 1) 0) 0 := by
            rw [List.length_append, List.length_singleton, Nat.add_sub_cancel, List.getD_eq_getElem?_getD, List.getElem?_append_right (Nat.le_refl _), Nat.sub_self]
            rfl
          rw [e5] at l2
          simp only [z_And, z_AndV, z_Args, z_Args0, z_Asg, z_BV, z_Bin, z_Break, z_C, z_CallB, z_Chain, z_Comp, z_Cont, z_DGet, z_DIn, z_DPut, z_Enum, z_Expr, z_For, z_Group, z_If, z_It, z_List, z_Meth, z_NewK, z_NewT, z_Next, z_Nm, z_NoP, z_Not, z_Op, z_Or, z_OrV, z_P, z_Par, z_Pass, z_Pk, z_Read, z_Ret, z_RetN, z_Rg1, z_Rg2, z_SIf, z_Seq, z_Sl, z_Sub, z_TB, z_Take, z_Tru, z_Tu, z_Tup, z_Turn, z_Un, z_Var, z_abs, z_agK, z_andF, z_andT, z_andVF, z_andVT, z_apI, z_apO, z_app1, z_app2, z_appA, z_ar1, z_ar2, z_arK, z_arK2, z_argP, z_argS, z_argV, z_args, z_args0, z_asK, z_asK2, z_atI, z_atK, z_atO, z_atV, z_augE, z_augF, z_binK, z_binK2, z_bvK, z_callE, z_cbK, z_chK, z_chK2, z_chain2, z_chnF, z_chnT, z_clB, z_clK, z_coK, z_dgK, z_dgK2, z_dget, z_diK, z_diK2, z_din, z_dispL, z_dispT, z_dvget, z_exK, z_exc, z_go, z_go0, z_goK, z_gotD, z_gotIn, z_grK, z_ifF, z_ifT, z_ifVF, z_ifVT, z_int, z_intB, z_io0, z_ioP, z_ioS, z_ioV, z_isL, z_isO, z_itE, z_itL, z_itS, z_itT, z_kpO, z_kpV, z_lenL, z_lenT, z_liK, z_lisL, z_lisT, z_lkK, z_look0, z_look1, z_lookD, z_lookDK, z_lookP, z_lookV, z_mCall, z_meB, z_meI, z_meK, z_meO, z_meR, z_no, z_notK, z_npK, z_npO, z_npS, z_npV, z_ok, z_one0, z_oneP, z_oneS, z_oneV, z_opO, z_opP, z_opS, z_opV, z_orF, z_orT, z_orVF, z_orVT, z_pI, z_paB, z_paK, z_paK2, z_pkK, z_puB, z_puK, z_putI, z_putM, z_putO, z_putV, z_r1K, z_r2K, z_r2K2, z_rdB, z_rdK, z_rdK2, z_rdM, z_reK, z_ret, z_retI, z_retN, z_rg1, z_rg2, z_rgI1, z_rgI2, z_rtV, z_saI, z_saO, z_seqB, z_seqC, z_seqN, z_seqR, z_sl, z_slK, z_slK2, z_slK3, z_slice, z_suB, z_suK, z_tK, z_tO, z_tV, z_tbK, z_tnK, z_truB, z_truI, z_truK, z_truL, z_truN, z_truT, z_tst, z_tuK, z_tupL, z_tupT, z_unK, z_vO, z_vS, z_vV, z_vals, z_vals0, z_wpB, z_wpO, z_yes, List.set_cons_zero, List.set_cons_succ, List.getElem?_cons_zero, List.getElem?_cons_succ, List.length_cons, List.length_nil, Bool.not_true, Bool.not_false, if_true, if_false, Bool.false_eq_true, reduceCtorEq, and_self, and_true, true_and, y_addI, y_sub, y_lt, y_gt, y_le, y_ge, y_neg, y_eqI, y_neI, Nat.reduceAdd, Nat.reduceLT, Nat.reduceLeDiff, decide_eq_true_eq, sz, Nat.zero_le, dn_len, List.isEmpty_cons, List.isEmpty_nil, List.cons_append, List.nil_append, List.all_cons, List.all_nil, Bool.and_true, Bool.true_and, Bool.and_self, lastL G.ne, ixTi hlast, appI (p := ring) (x := p.getD (ring.getD (ring.length - 1) 0) 0) (by omega), l2, met_put g1, hs1]
          exact ⟨n - (ring.length + 1), by omega, ring ++ [p.getD (ring.getD (ring.length - 1) 0) 0], by rw [List.append_assoc], by rw [List.length_append, List.length_singleton], g2⟩
        · have he : p.getD (ring.getD (ring.length - 1) 0) 0 = k := by
            have : (((p.getD (ring.getD (ring.length - 1) 0) 0 : Nat) : Int) = (k : Int)) := by simpa using hc
            omega
          have hR2 := G.close hR he
          have fl : (R ++ [ring]).flatten = R.flatten ++ ring := by simp
          have hRl : (lrs R).length ≤ 1000000 := by
            unfold lrs
            rw [List.length_map]
            have : R.length ≤ R.flatten.length := flat_len fun r hr => (hR.ok r hr).1
            omega
          simp only [z_And, z_AndV, z_Args, z_Args0, z_Asg, z_BV, z_Bin, z_Break, z_C, z_CallB, z_Chain, z_Comp, z_Cont, z_DGet, z_DIn, z_DPut, z_Enum, z_Expr, z_For, z_Group, z_If, z_It, z_List, z_Meth, z_NewK, z_NewT, z_Next, z_Nm, z_NoP, z_Not, z_Op, z_Or, z_OrV, z_P, z_Par, z_Pass, z_Pk, z_Read, z_Ret, z_RetN, z_Rg1, z_Rg2, z_SIf, z_Seq, z_Sl, z_Sub, z_TB, z_Take, z_Tru, z_Tu, z_Tup, z_Turn, z_Un, z_Var, z_abs, z_agK, z_andF, z_andT, z_andVF, z_andVT, z_apI, z_apO, z_app1, z_app2, z_appA, z_ar1, z_ar2, z_arK, z_arK2, z_argP, z_argS, z_argV, z_args, z_args0, z_asK, z_asK2, z_atI, z_atK, z_atO, z_atV, z_augE, z_augF, z_binK, z_binK2, z_bvK, z_callE, z_cbK, z_chK, z_chK2, z_chain2, z_chnF, z_chnT, z_clB, z_clK, z_coK, z_dgK, z_dgK2, z_dget, z_diK, z_diK2, z_din, z_dispL, z_dispT, z_dvget, z_exK, z_exc, z_go, z_go0, z_goK, z_gotD, z_gotIn, z_grK, z_ifF, z_ifT, z_ifVF, z_ifVT, z_int, z_intB, z_io0, z_ioP, z_ioS, z_ioV, z_isL, z_isO, z_itE, z_itL, z_itS, z_itT, z_kpO, z_kpV, z_lenL, z_lenT, z_liK, z_lisL, z_lisT, z_lkK, z_look0, z_look1, z_lookD, z_lookDK, z_lookP, z_lookV, z_mCall, z_meB, z_meI, z_meK, z_meO, z_meR, z_no, z_notK, z_npK, z_npO, z_npS, z_npV, z_ok, z_one0, z_oneP, z_oneS, z_oneV, z_opO, z_opP, z_opS, z_opV, z_orF, z_orT, z_orVF, z_orVT, z_pI, z_paB, z_paK, z_paK2, z_pkK, z_puB, z_puK, z_putI, z_putM, z_putO, z_putV, z_r1K, z_r2K, z_r2K2, z_rdB, z_rdK, z_rdK2, z_rdM, z_reK, z_ret, z_retI, z_retN, z_rg1, z_rg2, z_rgI1, z_rgI2, z_rtV, z_saI, z_saO, z_seqB, z_seqC, z_seqN, z_seqR, z_sl, z_slK, z_slK2, z_slK3, z_slice, z_suB, z_suK, z_tK, z_tO, z_tV, z_tbK, z_tnK, z_truB, z_truI, z_truK, z_truL, z_truN, z_truT, z_tst, z_tuK, z_tupL, z_tupT, z_unK, z_vO, z_vS, z_vV, z_vals, z_vals0, z_wpB, z_wpO, z_yes, List.set_cons_zero, List.set_cons_succ, List.getElem?_cons_zero, List.getElem?_cons_succ, List.length_cons, List.length_nil, Bool.not_true, Bool.not_false, if_true, if_false, Bool.false_eq_true, reduceCtorEq, and_self, and_true, true_and, y_addI, y_sub, y_lt, y_gt, y_le, y_ge, y_neg, y_eqI, y_neI, Nat.reduceAdd, Nat.reduceLT, Nat.reduceLeDiff, decide_eq_true_eq, sz, Nat.zero_le, dn_len, List.isEmpty_cons, List.isEmpty_nil, List.cons_append, List.nil_append, List.all_cons, List.all_nil, Bool.and_true, Bool.true_and, Bool.and_self, appD hRl]
          refine ⟨R ++ [ring], .val (.int (k : Int)), .val (.list (dn ring)), ?_, hR2, fun x hx => ?_⟩
          · rw [fl]
            unfold lrs
            rw [List.map_append]
            rfl
          · rw [fl]
            by_cases h : x = k
            · subst h
              refine List.mem_append_right _ ?_
              have := getD_mem (p := ring) (i := 0) hrl
              rwa [G.hd] at this
            · exact List.mem_append_left _ (hk x (by omega))
    · obtain ⟨R, t3, t4, rfl, hR, hk⟩ := hI
      simp only [z_And, z_AndV, z_Args, z_Args0, z_Asg, z_BV, z_Bin, z_Break, z_C, z_CallB, z_Chain, z_Comp, z_Cont, z_DGet, z_DIn, z_DPut, z_Enum, z_Expr, z_For, z_Group, z_If, z_It, z_List, z_Meth, z_NewK, z_NewT, z_Next, z_Nm, z_NoP, z_Not, z_Op, z_Or, z_OrV, z_P, z_Par, z_Pass, z_Pk, z_Read, z_Ret, z_RetN, z_Rg1, z_Rg2, z_SIf, z_Seq, z_Sl, z_Sub, z_TB, z_Take, z_Tru, z_Tu, z_Tup, z_Turn, z_Un, z_Var, z_abs, z_agK, z_andF, z_andT, z_andVF, z_andVT, z_apI, z_apO, z_app1, z_app2, z_appA, z_ar1, z_ar2, z_arK, z_arK2, z_argP, z_argS, z_argV, z_args, z_args0, z_asK, z_asK2, z_atI, z_atK, z_atO, z_atV, z_augE, z_augF, z_binK, z_binK2, z_bvK, z_callE, z_cbK, z_chK, z_chK2, z_chain2, z_chnF, z_chnT, z_clB, z_clK, z_coK, z_dgK, z_dgK2, z_dget, z_diK, z_diK2, z_din, z_dispL, z_dispT, z_dvget, z_exK, z_exc, z_go, z_go0, z_goK, z_gotD, z_gotIn, z_grK, z_ifF, z_ifT, z_ifVF, z_ifVT, z_int, z_intB, z_io0, z_ioP, z_ioS, z_ioV, z_isL, z_isO, z_itE, z_itL, z_itS, z_itT, z_kpO, z_kpV, z_lenL, z_lenT, z_liK, z_lisL, z_lisT, z_lkK, z_look0, z_look1, z_lookD, z_lookDK, z_lookP, z_lookV, z_mCall, z_meB, z_meI, z_meK, z_meO, z_meR, z_no, z_notK, z_npK, z_npO, z_npS, z_npV, z_ok, z_one0, z_oneP, z_oneS, z_oneV, z_opO, z_opP, z_opS, z_opV, z_orF, z_orT, z_orVF, z_orVT, z_pI, z_paB, z_paK, z_paK2, z_pkK, z_puB, z_puK, z_putI, z_putM, z_putO, z_putV, z_r1K, z_r2K, z_r2K2, z_rdB, z_rdK, z_rdK2, z_rdM, z_reK, z_ret, z_retI, z_retN, z_rg1, z_rg2, z_rgI1, z_rgI2, z_rtV, z_saI, z_saO, z_seqB, z_seqC, z_seqN, z_seqR, z_sl, z_slK, z_slK2, z_slK3, z_slice, z_suB, z_suK, z_tK, z_tO, z_tV, z_tbK, z_tnK, z_truB, z_truI, z_truK, z_truL, z_truN, z_truT, z_tst, z_tuK, z_tupL, z_tupT, z_unK, z_vO, z_vS, z_vV, z_vals, z_vals0, z_wpB, z_wpO, z_yes, List.set_cons_zero, List.set_cons_succ, List.getElem?_cons_zero, List.getElem?_cons_succ, List.length_cons, List.length_nil, Bool.not_true, Bool.not_false, if_true, if_false, Bool.false_eq_true, reduceCtorEq, and_self, and_true, true_and, y_addI, y_sub, y_lt, y_gt, y_le, y_ge, y_neg, y_eqI, y_neI, Nat.reduceAdd, Nat.reduceLT, Nat.reduceLeDiff, decide_eq_true_eq, sz, Nat.zero_le, dn_len, List.isEmpty_cons, List.isEmpty_nil, List.cons_append, List.nil_append, List.all_cons, List.all_nil, Bool.and_true, Bool.true_and, Bool.and_self]
      refine ⟨R, rfl, rfl, hR, fun x => ⟨fun h => by rw [← hpl]; exact hR.lt x h, fun h => hk x ?_⟩⟩
      rw [dn_len, List.length_range]
      exact h
  obtain ⟨r, io, h, R, rfl, rfl, h2, h3⟩ := ok_of_P key
  exact ⟨R, h, h2, h3⟩
end VP
namespace VP
open PySem VL L2
/-! ### what is written ring by ring -/
def Wr (R : List (List Nat)) (h : Nat → Nat → Nat) (q : List Nat) (n : Nat) : Prop := q.length = n ∧ ∀ r ∈ R, ∀ i, i < r.length → q.getD (r.getD i 0) 0 = r.getD (h i r.length) 0
def WrI (r : List Nat) (h : Nat → Nat → Nat) (q : List Nat) (m : Nat) : Prop := ∀ i, i < m → q.getD (r.getD i 0) 0 = r.getD (h i r.length) 0
theorem wr_step {R : List (List Nat)} {r q : List Nat} {h : Nat → Nat → Nat} {n m : Nat} (nd : (R.flatten ++ r).Nodup) (hw : Wr R h q n) (hi : WrI r h q m) (hm : m < r.length) (hlt : r.getD m 0 < n) :
    Wr R h (q.set (r.getD m 0) (r.getD (h m r.length) 0)) n ∧ WrI r h (q.set (r.getD m 0) (r.getD (h m r.length) 0)) (m + 1) := by
  have hnd := List.nodup_append.mp nd
  refine ⟨⟨by rw [List.length_set]; exact hw.1, fun r' hr' i hi' => ?_⟩, fun i hi' => ?_⟩
  · have ne : r.getD m 0 ≠ r'.getD i 0 := fun z => hnd.2.2 (r'.getD i 0) (List.mem_flatten.mpr ⟨r', hr', getD_mem hi'⟩) (r.getD m 0) (getD_mem hm) z.symm
    rw [getD_set, if_neg fun z => ne z.1]
    exact hw.2 r' hr' i hi'
  · by_cases e : i = m
    · subst e
      rw [getD_set, if_pos ⟨rfl, by rw [hw.1]; exact hlt⟩]
    · have ne : r.getD m 0 ≠ r.getD i 0 := fun z => e (getD_inj hnd.2.1 hm (by omega) z).symm
      rw [getD_set, if_neg fun z => ne z.1]
      exact hi i (by omega)
theorem wr_close {R : List (List Nat)} {r q : List Nat} {h : Nat → Nat → Nat} {n : Nat} (hw : Wr R h q n) (hi : WrI r h q r.length) : Wr (R ++ [r]) h q n := by
  refine ⟨hw.1, fun r' hr' i hi' => ?_⟩
  rcases List.mem_append.mp hr' with hr' | hr'
  · exact hw.2 r' hr' i hi'
  · rw [List.mem_singleton] at hr'
    subst hr'
    exact hi i hi'
def itp (p : List Nat) : Nat → Nat → Nat
  | 0, x => x
  | k + 1, x => p.getD (itp p k x) 0
def pw (p : List Nat) (n k : Nat) : List Nat := (List.range n).map (itp p k)
def bh (a b : List Nat) : List Nat := a.map fun x => b.getD x 0
theorem itp_ring {p r : List Nat} (h : RingOk p r) {i : Nat} (hi : i < r.length) : ∀ k, itp p k (r.getD i 0) = r.getD ((i + k) % r.length) 0
  | 0 => by rw [Nat.add_zero, Nat.mod_eq_of_lt hi]; rfl
  | k + 1 => by
    show p.getD (itp p k (r.getD i 0)) 0 = _
    rw [itp_ring h hi k, h.2 _ (Nat.mod_lt _ (by omega)), Nat.mod_add_mod, Nat.add_assoc]
theorem take_succ' {α : Type} {R : List α} {m : Nat} {r : α} (h : R[m]? = some r) : R.take (m + 1) = R.take m ++ [r] := by
  rw [List.take_succ, h]
  rfl
theorem flat_take {R : List (List Nat)} {m : Nat} {r : List Nat} (h : R[m]? = some r) (nd : R.flatten.Nodup) : ((R.take m).flatten ++ r).Nodup := by
  have e : R = R.take (m + 1) ++ R.drop (m + 1) := (List.take_append_drop _ _).symm
  rw [e, take_succ' h, List.flatten_append, List.flatten_append] at nd
  have := (List.nodup_append.mp nd).1
  simpa using this
theorem lrs_at {R : List (List Nat)} {m : Nat} {d : Da} (h : (lrs R)[m]? = some d) : ∃ r, R[m]? = some r ∧ d = .list (dn r) := by
  unfold lrs at h
  rw [List.getElem?_map] at h
  obtain ⟨r, h1, h2⟩ := Option.map_eq_some_iff.mp h
  exact ⟨r, h1, h2.symm⟩
theorem enum_len {xs : List Da} : (enumD xs).length = xs.length := by unfold enumD; rw [List.length_map, List.length_range]
theorem enum_dn {r : List Nat} {m : Nat} {d : Da} (h : (enumD (dn r))[m]? = some d) : m < r.length ∧ d = .tuple [.int (m : Int), .int ((r.getD m 0 : Nat) : Int)] := by
  obtain ⟨x, h1, h2⟩ := enumD_get h
  have hm : m < r.length := by have := (List.getElem?_eq_some_iff.mp h1).1; rwa [dn_len] at this
  rw [dn_at hm] at h1
  cases h1
  exact ⟨hm, h2⟩
theorem emodN {a b c : Nat} : ((a : Int) + (b : Int)) % (c : Int) = (((a + b) % c : Nat) : Int) := by
  rw [← Int.natCast_add, Int.natCast_emod]
theorem powered_ok {p : List Nat} {n k : Nat} (hp : Perm0 p n) (hn : n ≤ 1000) : fn_4 [.val (.tuple (dn p)), .val (.int (k : Int))] = .ok (.val (.tuple (dn (pw p n k)))) none := by
  have hpl := hp.len
  obtain ⟨R, hR, hok, hcov⟩ := rings_ok hp hn
  have key : WF (fn_4 [.val (.tuple (dn p)), .val (.int (k : Int))]) (fun r io => r = .val (.tuple (dn (pw p n k))) ∧ io = none) := by
    refine body_P rfl rfl ?_
    show WP (ms_4 [.val (.tuple (dn p)), .val (.int (k : Int)), .no, .no, .no, .no]) _
    have rg : fRgL 0 (p.length : Int) = some (.own (dn (List.range n))) := by rw [hpl]; exact rgL rfl (by omega)
    simp only [ms_4, z_And, z_AndV, z_Args, z_Args0, z_Asg, z_BV, z_Bin, z_Break, z_C, z_CallB, z_Chain, z_Comp, z_Cont, z_DGet, z_DIn, z_DPut, z_Enum, z_Expr, z_For, z_Group, z_If, z_It, z_List, z_Meth, z_NewK, z_NewT, z_Next, z_Nm, z_NoP, z_Not, z_Op, z_Or, z_OrV, z_P, z_Par, z_Pass, z_Pk, z_Read, z_Ret, z_RetN, z_Rg1, z_Rg2, z_SIf, z_Seq, z_Sl, z_Sub, z_TB, z_Take, z_Tru, z_Tu, z_Tup, z_Turn, z_Un, z_Var, z_abs, z_agK, z_andF, z_andT, z_andVF, z_andVT, z_apI, z_apO, z_app1, z_app2, z_appA, z_ar1, z_ar2, z_arK, z_arK2, z_argP, z_argS, z_argV, z_args, z_args0, z_asK, z_asK2, z_atI, z_atK, z_atO, z_atV, z_augE, z_augF, z_binK, z_binK2, z_bvK, z_callE, z_cbK, z_chK, z_chK2, z_chain2, z_chnF, z_chnT, z_clB, z_clK, z_coK, z_dgK, z_dgK2, z_dget, z_diK, z_diK2, z_din, z_dispL, z_dispT, z_dvget, z_exK, z_exc, z_go, z_go0, z_goK, z_gotD, z_gotIn, z_grK, z_ifF, z_ifT, z_ifVF, z_ifVT, z_int, z_intB, z_io0, z_ioP, z_ioS, z_ioV, z_isL, z_isO, z_itE, z_itL, z_itS, z_itT, z_kpO, z_kpV, z_lenL, z_lenT, z_liK, z_lisL, z_lisT, z_lkK, z_look0, z_look1, z_lookD, z_lookDK, z_lookP, z_lookV, z_mCall, z_meB, z_meI, z_meK, z_meO, z_meR, z_no, z_notK, z_npK, z_npO, z_npS, z_npV, z_ok, z_one0, z_oneP, z_oneS, z_oneV, z_opO, z_opP, z_opS, z_opV, z_orF, z_orT, z_orVF, z_orVT, z_pI, z_paB, z_paK, z_paK2, z_pkK, z_puB, z_puK, z_putI, z_putM, z_putO, z_putV, z_r1K, z_r2K, z_r2K2, z_rdB, z_rdK, z_rdK2, z_rdM, z_reK, z_ret, z_retI, z_retN, z_rg1, z_rg2, z_rgI1, z_rgI2, z_rtV, z_saI, z_saO, z_seqB, z_seqC, z_seqN, z_seqR, z_sl, z_slK, z_slK2, z_slK3, z_slice, z_suB, z_suK, z_tK, z_tO, z_tV, z_tbK, z_tnK, z_truB, z_truI, z_truK, z_truL, z_truN, z_truT, z_tst, z_tuK, z_tupL, z_tupT, z_unK, z_vO, z_vS, z_vV, z_vals, z_vals0, z_wpB, z_wpO, z_yes, List.set_cons_zero, List.set_cons_succ, List.getElem?_cons_zero, List.getElem?_cons_succ, List.length_cons, List.length_nil, Bool.not_true, Bool.not_false, if_true, if_false, Bool.false_eq_true, reduceCtorEq, and_self, and_true, true_and, y_addI, y_sub, y_lt, y_gt, y_le, y_ge, y_neg, y_eqI, y_neI, Nat.reduceAdd, Nat.reduceLT, Nat.reduceLeDiff, decide_eq_true_eq, sz, Nat.zero_le, dn_len, List.isEmpty_cons, List.isEmpty_nil, List.cons_append, List.nil_append, List.all_cons, List.all_nil, Bool.and_true, Bool.true_and, Bool.and_self, rg, hR]
    refine forL_P (fun m e => ∃ q t3 t4 t5, e = [.val (.tuple (dn p)), .val (.int (k : Int)), .own (dn q), t3, t4, t5] ∧ Wr (R.take m) (fun i l => (i + k) % l) q n) (fun m d e hd hI => ?_) (fun e hI => ?_)
      ⟨List.range n, .no, .no, .no, rfl, List.length_range, fun r h => by simp at h⟩
    · obtain ⟨q, t3, t4, t5, rfl, hw⟩ := hI
      obtain ⟨r, hr, rfl⟩ := lrs_at hd
      have hrm : r ∈ R := List.mem_of_getElem? hr
      have hro := hok.ok r hrm
      have hrl := List.length_pos_iff.mpr hro.1
      simp only [z_And, z_AndV, z_Args, z_Args0, z_Asg, z_BV, z_Bin, z_Break, z_C, z_CallB, z_Chain, z_Comp, z_Cont, z_DGet, z_DIn, z_DPut, z_Enum, z_Expr, z_For, z_Group, z_If, z_It, z_List, z_Meth, z_NewK, z_NewT, z_Next, z_Nm, z_NoP, z_Not, z_Op, z_Or, z_OrV, z_P, z_Par, z_Pass, z_Pk, z_Read, z_Ret, z_RetN, z_Rg1, z_Rg2, z_SIf, z_Seq, z_Sl, z_Sub, z_TB, z_Take, z_Tru, z_Tu, z_Tup, z_Turn, z_Un, z_Var, z_abs, z_agK, z_andF, z_andT, z_andVF, z_andVT, z_apI, z_apO, z_app1, z_app2, z_appA, z_ar1, z_ar2, z_arK, z_arK2, z_argP, z_argS, z_argV, z_args, z_args0, z_asK, z_asK2, z_atI, z_atK, z_atO, z_atV, z_augE, z_augF, z_binK, z_binK2, z_bvK, z_callE, z_cbK, z_chK, z_chK2, z_chain2, z_chnF, z_chnT, z_clB, z_clK, z_coK, z_dgK, z_dgK2, z_dget, z_diK, z_diK2, z_din, z_dispL, z_dispT, z_dvget, z_exK, z_exc, z_go, z_go0, z_goK, z_gotD, z_gotIn, z_grK, z_ifF, z_ifT, z_ifVF, z_ifVT, z_int, z_intB, z_io0, z_ioP, z_ioS, z_ioV, z_isL, z_isO, z_itE, z_itL, z_itS, z_itT, z_kpO, z_kpV, z_lenL, z_lenT, z_liK, z_lisL, z_lisT, z_lkK, z_look0, z_look1, z_lookD, z_lookDK, z_lookP, z_lookV, z_mCall, z_meB, z_meI, z_meK, z_meO, z_meR, z_no, z_notK, z_npK, z_npO, z_npS, z_npV, z_ok, z_one0, z_oneP, z_oneS, z_oneV, z_opO, z_opP, z_opS, z_opV, z_orF, z_orT, z_orVF, z_orVT, z_pI, z_paB, z_paK, z_paK2, z_pkK, z_puB, z_puK, z_putI, z_putM, z_putO, z_putV, z_r1K, z_r2K, z_r2K2, z_rdB, z_rdK, z_rdK2, z_rdM, z_reK, z_ret, z_retI, z_retN, z_rg1, z_rg2, z_rgI1, z_rgI2, z_rtV, z_saI, z_saO, z_seqB, z_seqC, z_seqN, z_seqR, z_sl, z_slK, z_slK2, z_slK3, z_slice, z_suB, z_suK, z_tK, z_tO, z_tV, z_tbK, z_tnK, z_truB, z_truI, z_truK, z_truL, z_truN, z_truT, z_tst, z_tuK, z_tupL, z_tupT, z_unK, z_vO, z_vS, z_vV, z_vals, z_vals0, z_wpB, z_wpO, z_yes, List.set_cons_zero, List.set_cons_succ, List.getElem?_cons_zero, List.getElem?_cons_succ, List.length_cons, List.length_nil, Bool.not_true, Bool.not_false, if_true, if_false, Bool.false_eq_true, reduceCtorEq, and_self, and_true, true_and, y_addI, y_sub, y_lt, y_gt, y_le, y_ge, y_neg, y_eqI, y_neI, Nat.reduceAdd, Nat.reduceLT, Nat.reduceLeDiff, decide_eq_true_eq, sz, Nat.zero_le, dn_len, List.isEmpty_cons, List.isEmpty_nil, List.cons_append, List.nil_append, List.all_cons, List.all_nil, Bool.and_true, Bool.true_and, Bool.and_self]
      refine forL_P (fun j e => ∃ q t4 t5, e = [.val (.tuple (dn p)), .val (.int (k : Int)), .own (dn q), .val (.list (dn r)), t4, t5] ∧ Wr (R.take m) (fun i l => (i + k) % l) q n ∧ WrI r (fun i l => (i + k) % l) q j) (fun j d e hd hI => ?_) (fun e hI => ?_)
        ⟨q, t4, t5, rfl, hw, fun i hi => absurd hi (Nat.not_lt_zero _)⟩
      · obtain ⟨q, t4, t5, rfl, hw, hwi⟩ := hI
        obtain ⟨hj, rfl⟩ := enum_dn hd
        have hlt : r.getD j 0 < n := (hcov _).mp (List.mem_flatten.mpr ⟨r, hrm, getD_mem hj⟩)
        obtain ⟨s1, s2⟩ := wr_step (flat_take hr hok.nd) hw hwi hj hlt
        have i1 := ixLi (p := r) (j := (j + k) % r.length) (Nat.mod_lt _ hrl)
        have i2 : ixN q.length ((r.getD j 0 : Nat) : Int) = some (r.getD j 0) := ixN_nat rfl (by rw [hw.1]; exact hlt)
        simp only [z_And, z_AndV, z_Args, z_Args0, z_Asg, z_BV, z_Bin, z_Break, z_C, z_CallB, z_Chain, z_Comp, z_Cont, z_DGet, z_DIn, z_DPut, z_Enum, z_Expr, z_For, z_Group, z_If, z_It, z_List, z_Meth, z_NewK, z_NewT, z_Next, z_Nm, z_NoP, z_Not, z_Op, z_Or, z_OrV, z_P, z_Par, z_Pass, z_Pk, z_Read, z_Ret, z_RetN, z_Rg1, z_Rg2, z_SIf, z_Seq, z_Sl, z_Sub, z_TB, z_Take, z_Tru, z_Tu, z_Tup, z_Turn, z_Un, z_Var, z_abs, z_agK, z_andF, z_andT, z_andVF, z_andVT, z_apI, z_apO, z_app1, z_app2, z_appA, z_ar1, z_ar2, z_arK, z_arK2, z_argP, z_argS, z_argV, z_args, z_args0, z_asK, z_asK2, z_atI, z_atK, z_atO, z_atV, z_augE, z_augF, z_binK, z_binK2, z_bvK, z_callE, z_cbK, z_chK, z_chK2, z_chain2, z_chnF, z_chnT, z_clB, z_clK, z_coK, z_dgK, z_dgK2, z_dget, z_diK, z_diK2, z_din, z_dispL, z_dispT, z_dvget, z_exK, z_exc, z_go, z_go0, z_goK, z_gotD, z_gotIn, z_grK, z_ifF, z_ifT, z_ifVF, z_ifVT, z_int, z_intB, z_io0, z_ioP, z_ioS, z_ioV, z_isL, z_isO, z_itE, z_itL, z_itS, z_itT, z_kpO, z_kpV, z_lenL, z_lenT, z_liK, z_lisL, z_lisT, z_lkK, z_look0, z_look1, z_lookD, z_lookDK, z_lookP, z_lookV, z_mCall, z_meB, z_meI, z_meK, z_meO, z_meR, z_no, z_notK, z_npK, z_npO, z_npS, z_npV, z_ok, z_one0, z_oneP, z_oneS, z_oneV, z_opO, z_opP, z_opS, z_opV, z_orF, z_orT, z_orVF, z_orVT, z_pI, z_paB, z_paK, z_paK2, z_pkK, z_puB, z_puK, z_putI, z_putM, z_putO, z_putV, z_r1K, z_r2K, z_r2K2, z_rdB, z_rdK, z_rdK2, z_rdM, z_reK, z_ret, z_retI, z_retN, z_rg1, z_rg2, z_rgI1, z_rgI2, z_rtV, z_saI, z_saO, z_seqB, z_seqC, z_seqN, z_seqR, z_sl, z_slK, z_slK2, z_slK3, z_slice, z_suB, z_suK, z_tK, z_tO, z_tV, z_tbK, z_tnK, z_truB, z_truI, z_truK, z_truL, z_truN, z_truT, z_tst, z_tuK, z_tupL, z_tupT, z_unK, z_vO, z_vS, z_vV, z_vals, z_vals0, z_wpB, z_wpO, z_yes, List.set_cons_zero, List.set_cons_succ, List.getElem?_cons_zero, List.getElem?_cons_succ, List.length_cons, List.length_nil, Bool.not_true, Bool.not_false, if_true, if_false, Bool.false_eq_true, reduceCtorEq, and_self, and_true, true_and, y_addI, y_sub, y_lt, y_gt, y_le, y_ge, y_neg, y_eqI, y_neI, Nat.reduceAdd, Nat.reduceLT, Nat.reduceLeDiff, decide_eq_true_eq, sz, Nat.zero_le, dn_len, List.isEmpty_cons, List.isEmpty_nil, List.cons_append, List.nil_append, List.all_cons, List.all_nil, Bool.and_true, Bool.true_and, Bool.and_self, emodN, y_mod (show (0 : Int) < (r.length : Int) by omega), i1, i2, dn_setI]
        exact ⟨_, _, _, rfl, s1, s2⟩
      · obtain ⟨q, t4, t5, rfl, hw, hwi⟩ := hI
        rw [enum_len, dn_len] at hwi
        exact ⟨q, _, _, _, rfl, by rw [take_succ' hr]; exact wr_close hw hwi⟩
    · obtain ⟨q, t3, t4, t5, rfl, hw⟩ := hI
      have hl : (lrs R).length = R.length := by unfold lrs; rw [List.length_map]
      rw [hl, List.take_length] at hw
      have e : q = pw p n k := by
        unfold pw
        refine ext_getD (by rw [hw.1, List.length_map, List.length_range]) fun x hx => ?_
        rw [hw.1] at hx
        obtain ⟨r, hr, hxr⟩ := List.mem_flatten.mp ((hcov x).mpr hx)
        obtain ⟨i, hi, rfl⟩ := mem_getD hxr
        rw [hw.2 r hr i hi, getD_map (by rw [List.length_range]; exact hx), List.getD_eq_getElem?_getD (l := List.range n), List.getElem?_range hx]
        exact (itp_ring (hok.ok r hr) hi k).symm
      subst e
      simp only [z_And, z_AndV, z_Args, z_Args0, z_Asg, z_BV, z_Bin, z_Break, z_C, z_CallB, z_Chain, z_Comp, z_Cont, z_DGet, z_DIn, z_DPut, z_Enum, z_Expr, z_For, z_Group, z_If, z_It, z_List, z_Meth, z_NewK, z_NewT, z_Next, z_Nm, z_NoP, z_Not, z_Op, z_Or, z_OrV, z_P, z_Par, z_Pass, z_Pk, z_Read, z_Ret, z_RetN, z_Rg1, z_Rg2, z_SIf, z_Seq, z_Sl, z_Sub, z_TB, z_Take, z_Tru, z_Tu, z_Tup, z_Turn, z_Un, z_Var, z_abs, z_agK, z_andF, z_andT, z_andVF, z_andVT, z_apI, z_apO, z_app1, z_app2, z_appA, z_ar1, z_ar2, z_arK, z_arK2, z_argP, z_argS, z_argV, z_args, z_args0, z_asK, z_asK2, z_atI, z_atK, z_atO, z_atV, z_augE, z_augF, z_binK, z_binK2, z_bvK, z_callE, z_cbK, z_chK, z_chK2, z_chain2, z_chnF, z_chnT, z_clB, z_clK, z_coK, z_dgK, z_dgK2, z_dget, z_diK, z_diK2, z_din, z_dispL, z_dispT, z_dvget, z_exK, z_exc, z_go, z_go0, z_goK, z_gotD, z_gotIn, z_grK, z_ifF, z_ifT, z_ifVF, z_ifVT, z_int, z_intB, z_io0, z_ioP, z_ioS, z_ioV, z_isL, z_isO, z_itE, z_itL, z_itS, z_itT, z_kpO, z_kpV, z_lenL, z_lenT, z_liK, z_lisL, z_lisT, z_lkK, z_look0, z_look1, z_lookD, z_lookDK, z_lookP, z_lookV, z_mCall, z_meB, z_meI, z_meK, z_meO, z_meR, z_no, z_notK, z_npK, z_npO, z_npS, z_npV, z_ok, z_one0, z_oneP, z_oneS, z_oneV, z_opO, z_opP, z_opS, z_opV, z_orF, z_orT, z_orVF, z_orVT, z_pI, z_paB, z_paK, z_paK2, z_pkK, z_puB, z_puK, z_putI, z_putM, z_putO, z_putV, z_r1K, z_r2K, z_r2K2, z_rdB, z_rdK, z_rdK2, z_rdM, z_reK, z_ret, z_retI, z_retN, z_rg1, z_rg2, z_rgI1, z_rgI2, z_rtV, z_saI, z_saO, z_seqB, z_seqC, z_seqN, z_seqR, z_sl, z_slK, z_slK2, z_slK3, z_slice, z_suB, z_suK, z_tK, z_tO, z_tV, z_tbK, z_tnK, z_truB, z_truI, z_truK, z_truL, z_truN, z_truT, z_tst, z_tuK, z_tupL, z_tupT, z_unK, z_vO, z_vS, z_vV, z_vals, z_vals0, z_wpB, z_wpO, z_yes, List.set_cons_zero, List.set_cons_succ, List.getElem?_cons_zero, List.getElem?_cons_succ, List.length_cons, List.length_nil, Bool.not_true, Bool.not_false, if_true, if_false, Bool.false_eq_true, reduceCtorEq, and_self, and_true, true_and, y_addI, y_sub, y_lt, y_gt, y_le, y_ge, y_neg, y_eqI, y_neI, Nat.reduceAdd, Nat.reduceLT, Nat.reduceLeDiff, decide_eq_true_eq, sz, Nat.zero_le, dn_len, List.isEmpty_cons, List.isEmpty_nil, List.cons_append, List.nil_append, List.all_cons, List.all_nil, Bool.and_true, Bool.true_and, Bool.and_self]
      exact ⟨rfl, rfl⟩
  obtain ⟨r, io, h, rfl, rfl⟩ := ok_of_P key
  exact h
end VP
namespace VP
open PySem VL L2
theorem nodup_inj {q : List Nat} (h : ∀ i j, i < q.length → j < q.length → q.getD i 0 = q.getD j 0 → i = j) : q.Nodup := by
  refine List.pairwise_iff_getElem.mpr fun i j hi hj hij e => ?_
  have := h i j hi hj (by rw [List.getD_eq_getElem?_getD, List.getElem?_eq_getElem hi, List.getD_eq_getElem?_getD, List.getElem?_eq_getElem hj]; exact e)
  omega
theorem perm_of_inv {q : List Nat} {n : Nat} (hl : q.length = n) (hlt : ∀ x, x < n → q.getD x 0 < n) (hi : ∀ x, x < n → q.getD (q.getD x 0) 0 = x) : Perm0 q n := by
  refine (List.perm_ext_iff_of_nodup (nodup_inj fun i j h1 h2 e => ?_) List.nodup_range).mpr fun a => ?_
  · rw [hl] at h1 h2
    rw [← hi i h1, ← hi j h2, e]
  · rw [List.mem_range]
    refine ⟨fun h => ?_, fun h => ?_⟩
    · obtain ⟨i, h1, rfl⟩ := mem_getD h
      exact hlt i (by rw [← hl]; exact h1)
    · rw [← hi a h]
      exact getD_mem (by rw [hl]; exact hlt a h)
theorem bh_id {a b : List Nat} {n : Nat} (hl : a.length = n) (h : ∀ x, x < n → b.getD (a.getD x 0) 0 = x) : bh a b = List.range n := by
  unfold bh
  refine ext_getD (by rw [List.length_map, hl, List.length_range]) fun x hx => ?_
  rw [List.length_map] at hx
  rw [getD_map hx, h x (by omega), List.getD_eq_getElem?_getD, List.getElem?_range (by omega)]
  rfl
/-- behind(first, second) -/
theorem behind_ok {a b : List Nat} {n : Nat} (hl : a.length ≤ 1000000) (h : ∀ x ∈ a, x < b.length) : fn_18 [.val (.tuple (dn a)), .val (.tuple (dn b))] = .ok (.val (.tuple (dn (bh a b)))) none ∧ fn_5 [.val (.tuple (dn a)), .val (.tuple (dn b))] = .ok (.val (.tuple (dn (bh a b)))) none := by
  have hc := comp_all (ct := .one 2) (t := yesT) (m := mBin fIx (mPk 1) (mPk 2)) (vs := [2]) (env := [.val (.tuple (dn a)), .val (.tuple (dn b)), .no]) rfl (fun d => match d with
    | .int i => .int ((b.getD i.toNat 0 : Nat) : Int)
    | d => d) (dn a) [] (by rw [List.length_nil, dn_len, sz]; omega) fun d hd => by
      obtain ⟨x, hx, rfl⟩ := List.mem_map.mp hd
      have i1 := ixTi (p := b) (j := x) (h x hx)
      refine ⟨[.val (.tuple (dn a)), .val (.tuple (dn b)), .val (.int (x : Int))], _, _, rfl, rfl, by simp only [z_And, z_AndV, z_Args, z_Args0, z_Asg, z_BV, z_Bin, z_Break, z_C, z_CallB, z_Chain, z_Comp, z_Cont, z_DGet, z_DIn, z_DPut, z_Enum, z_Expr, z_For, z_Group, z_If, z_It, z_List, z_Meth, z_NewK, z_NewT, z_Next, z_Nm, z_NoP, z_Not, z_Op, z_Or, z_OrV, z_P, z_Par, z_Pass, z_Pk, z_Read, z_Ret, z_RetN, z_Rg1, z_Rg2, z_SIf, z_Seq, z_Sl, z_Sub, z_TB, z_Take, z_Tru, z_Tu, z_Tup, z_Turn, z_Un, z_Var, z_abs, z_agK, z_andF, z_andT, z_andVF, z_andVT, z_apI, z_apO, z_app1, z_app2, z_appA, z_ar1, z_ar2, z_arK, z_arK2, z_argP, z_argS, z_argV, z_args, z_args0, z_asK, z_asK2, z_atI, z_atK, z_atO, z_atV, z_augE, z_augF, z_binK, z_binK2, z_bvK, z_callE, z_cbK, z_chK, z_chK2, z_chain2, z_chnF, z_chnT, z_clB, z_clK, z_coK, z_dgK, z_dgK2, z_dget, z_diK, z_diK2, z_din, z_dispL, z_dispT, z_dvget, z_exK, z_exc, z_go, z_go0, z_goK, z_gotD, z_gotIn, z_grK, z_ifF, z_ifT, z_ifVF, z_ifVT, z_int, z_intB, z_io0, z_ioP, z_ioS, z_ioV, z_isL, z_isO, z_itE, z_itL, z_itS, z_itT, z_kpO, z_kpV, z_lenL, z_lenT, z_liK, z_lisL, z_lisT, z_lkK, z_look0, z_look1, z_lookD, z_lookDK, z_lookP, z_lookV, z_mCall, z_meB, z_meI, z_meK, z_meO, z_meR, z_no, z_notK, z_npK, z_npO, z_npS, z_npV, z_ok, z_one0, z_oneP, z_oneS, z_oneV, z_opO, z_opP, z_opS, z_opV, z_orF, z_orT, z_orVF, z_orVT, z_pI, z_paB, z_paK, z_paK2, z_pkK, z_puB, z_puK, z_putI, z_putM, z_putO, z_putV, z_r1K, z_r2K, z_r2K2, z_rdB, z_rdK, z_rdK2, z_rdM, z_reK, z_ret, z_retI, z_retN, z_rg1, z_rg2, z_rgI1, z_rgI2, z_rtV, z_saI, z_saO, z_seqB, z_seqC, z_seqN, z_seqR, z_sl, z_slK, z_slK2, z_slK3, z_slice, z_suB, z_suK, z_tK, z_tO, z_tV, z_tbK, z_tnK, z_truB, z_truI, z_truK, z_truL, z_truN, z_truT, z_tst, z_tuK, z_tupL, z_tupT, z_unK, z_vO, z_vS, z_vV, z_vals, z_vals0, z_wpB, z_wpO, z_yes, List.set_cons_zero, List.set_cons_succ, List.getElem?_cons_zero, List.getElem?_cons_succ, List.length_cons, List.length_nil, Bool.not_true, Bool.not_false, if_true, if_false, Bool.false_eq_true, reduceCtorEq, and_self, and_true, true_and, y_addI, y_sub, y_lt, y_gt, y_le, y_ge, y_neg, y_eqI, y_neI, Nat.reduceAdd, Nat.reduceLT, Nat.reduceLeDiff, decide_eq_true_eq, sz, Nat.zero_le, dn_len, List.isEmpty_cons, List.isEmpty_nil, List.cons_append, List.nil_append, List.all_cons, List.all_nil, Bool.and_true, Bool.true_and, Bool.and_self, i1]; rfl, rfl⟩
  have e : [] ++ (dn a).map (fun d => match d with
    | .int i => PyData.int ((b.getD i.toNat 0 : Nat) : Int)
    | d => d) = dn (bh a b) := by
    unfold dn bh
    rw [List.map_map, List.map_map]
    rfl
  rw [e] at hc
  have k1 : WF (fn_18 [.val (.tuple (dn a)), .val (.tuple (dn b))]) (fun r io => r = .val (.tuple (dn (bh a b))) ∧ io = none) := by
    refine body_P rfl rfl ?_
    show WP (ms_18 [.val (.tuple (dn a)), .val (.tuple (dn b)), .no]) _
    simp only [ms_18, z_And, z_AndV, z_Args, z_Args0, z_Asg, z_BV, z_Bin, z_Break, z_C, z_CallB, z_Chain, z_Comp, z_Cont, z_DGet, z_DIn, z_DPut, z_Enum, z_Expr, z_For, z_Group, z_If, z_It, z_List, z_Meth, z_NewK, z_NewT, z_Next, z_Nm, z_NoP, z_Not, z_Op, z_Or, z_OrV, z_P, z_Par, z_Pass, z_Pk, z_Read, z_Ret, z_RetN, z_Rg1, z_Rg2, z_SIf, z_Seq, z_Sl, z_Sub, z_TB, z_Take, z_Tru, z_Tu, z_Tup, z_Turn, z_Un, z_Var, z_abs, z_agK, z_andF, z_andT, z_andVF, z_andVT, z_apI, z_apO, z_app1, z_app2, z_appA, z_ar1, z_ar2, z_arK, z_arK2, z_argP, z_argS, z_argV, z_args, z_args0, z_asK, z_asK2, z_atI, z_atK, z_atO, z_atV, z_augE, z_augF, z_binK, z_binK2, z_bvK, z_callE, z_cbK, z_chK, z_chK2, z_chain2, z_chnF, z_chnT, z_clB, z_clK, z_coK, z_dgK, z_dgK2, z_dget, z_diK, z_diK2, z_din, z_dispL, z_dispT, z_dvget, z_exK, z_exc, z_go, z_go0, z_goK, z_gotD, z_gotIn, z_grK, z_ifF, z_ifT, z_ifVF, z_ifVT, z_int, z_intB, z_io0, z_ioP, z_ioS, z_ioV, z_isL, z_isO, z_itE, z_itL, z_itS, z_itT, z_kpO, z_kpV, z_lenL, z_lenT, z_liK, z_lisL, z_lisT, z_lkK, z_look0, z_look1, z_lookD, z_lookDK, z_lookP, z_lookV, z_mCall, z_meB, z_meI, z_meK, z_meO, z_meR, z_no, z_notK, z_npK, z_npO, z_npS, z_npV, z_ok, z_one0, z_oneP, z_oneS, z_oneV, z_opO, z_opP, z_opS, z_opV, z_orF, z_orT, z_orVF, z_orVT, z_pI, z_paB, z_paK, z_paK2, z_pkK, z_puB, z_puK, z_putI, z_putM, z_putO, z_putV, z_r1K, z_r2K, z_r2K2, z_rdB, z_rdK, z_rdK2, z_rdM, z_reK, z_ret, z_retI, z_retN, z_rg1, z_rg2, z_rgI1, z_rgI2, z_rtV, z_saI, z_saO, z_seqB, z_seqC, z_seqN, z_seqR, z_sl, z_slK, z_slK2, z_slK3, z_slice, z_suB, z_suK, z_tK, z_tO, z_tV, z_tbK, z_tnK, z_truB, z_truI, z_truK, z_truL, z_truN, z_truT, z_tst, z_tuK, z_tupL, z_tupT, z_unK, z_vO, z_vS, z_vV, z_vals, z_vals0, z_wpB, z_wpO, z_yes, List.set_cons_zero, List.set_cons_succ, List.getElem?_cons_zero, List.getElem?_cons_succ, List.length_cons, List.length_nil, Bool.not_true, Bool.not_false, if_true, if_false, Bool.false_eq_true, reduceCtorEq, and_self, and_true, true_and, y_addI, y_sub, y_lt, y_gt, y_le, y_ge, y_neg, y_eqI, y_neI, Nat.reduceAdd, Nat.reduceLT, Nat.reduceLeDiff, decide_eq_true_eq, sz, Nat.zero_le, dn_len, List.isEmpty_cons, List.isEmpty_nil, List.cons_append, List.nil_append, List.all_cons, List.all_nil, Bool.and_true, Bool.true_and, Bool.and_self, hc]
    exact ⟨rfl, rfl⟩
  have k2 : WF (fn_5 [.val (.tuple (dn a)), .val (.tuple (dn b))]) (fun r io => r = .val (.tuple (dn (bh a b))) ∧ io = none) := by
    refine body_P rfl rfl ?_
    show WP (ms_5 [.val (.tuple (dn a)), .val (.tuple (dn b)), .no]) _
    simp only [ms_5, z_And, z_AndV, z_Args, z_Args0, z_Asg, z_BV, z_Bin, z_Break, z_C, z_CallB, z_Chain, z_Comp, z_Cont, z_DGet, z_DIn, z_DPut, z_Enum, z_Expr, z_For, z_Group, z_If, z_It, z_List, z_Meth, z_NewK, z_NewT, z_Next, z_Nm, z_NoP, z_Not, z_Op, z_Or, z_OrV, z_P, z_Par, z_Pass, z_Pk, z_Read, z_Ret, z_RetN, z_Rg1, z_Rg2, z_SIf, z_Seq, z_Sl, z_Sub, z_TB, z_Take, z_Tru, z_Tu, z_Tup, z_Turn, z_Un, z_Var, z_abs, z_agK, z_andF, z_andT, z_andVF, z_andVT, z_apI, z_apO, z_app1, z_app2, z_appA, z_ar1, z_ar2, z_arK, z_arK2, z_argP, z_argS, z_argV, z_args, z_args0, z_asK, z_asK2, z_atI, z_atK, z_atO, z_atV, z_augE, z_augF, z_binK, z_binK2, z_bvK, z_callE, z_cbK, z_chK, z_chK2, z_chain2, z_chnF, z_chnT, z_clB, z_clK, z_coK, z_dgK, z_dgK2, z_dget, z_diK, z_diK2, z_din, z_dispL, z_dispT, z_dvget, z_exK, z_exc, z_go, z_go0, z_goK, z_gotD, z_gotIn, z_grK, z_ifF, z_ifT, z_ifVF, z_ifVT, z_int, z_intB, z_io0, z_ioP, z_ioS, z_ioV, z_isL, z_isO, z_itE, z_itL, z_itS, z_itT, z_kpO, z_kpV, z_lenL, z_lenT, z_liK, z_lisL, z_lisT, z_lkK, z_look0, z_look1, z_lookD, z_lookDK, z_lookP, z_lookV, z_mCall, z_meB, z_meI, z_meK, z_meO, z_meR, z_no, z_notK, z_npK, z_npO, z_npS, z_npV, z_ok, z_one0, z_oneP, z_oneS, z_oneV, z_opO, z_opP, z_opS, z_opV, z_orF, z_orT, z_orVF, z_orVT, z_pI, z_paB, z_paK, z_paK2, z_pkK, z_puB, z_puK, z_putI, z_putM, z_putO, z_putV, z_r1K, z_r2K, z_r2K2, z_rdB, z_rdK, z_rdK2, z_rdM, z_reK, z_ret, z_retI, z_retN, z_rg1, z_rg2, z_rgI1, z_rgI2, z_rtV, z_saI, z_saO, z_seqB, z_seqC, z_seqN, z_seqR, z_sl, z_slK, z_slK2, z_slK3, z_slice, z_suB, z_suK, z_tK, z_tO, z_tV, z_tbK, z_tnK, z_truB, z_truI, z_truK, z_truL, z_truN, z_truT, z_tst, z_tuK, z_tupL, z_tupT, z_unK, z_vO, z_vS, z_vV, z_vals, z_vals0, z_wpB, z_wpO, z_yes, List.set_cons_zero, List.set_cons_succ, List.getElem?_cons_zero, List.getElem?_cons_succ, List.length_cons, List.length_nil, Bool.not_true, Bool.not_false, if_true, if_false, Bool.false_eq_true, reduceCtorEq, and_self, and_true, true_and, y_addI, y_sub, y_lt, y_gt, y_le, y_ge, y_neg, y_eqI, y_neI, Nat.reduceAdd, Nat.reduceLT, Nat.reduceLeDiff, decide_eq_true_eq, sz, Nat.zero_le, dn_len, List.isEmpty_cons, List.isEmpty_nil, List.cons_append, List.nil_append, List.all_cons, List.all_nil, Bool.and_true, Bool.true_and, Bool.and_self, hc]
    exact ⟨rfl, rfl⟩
  obtain ⟨r, io, h1, rfl, rfl⟩ := ok_of_P k1
  obtain ⟨r, io, h2, rfl, rfl⟩ := ok_of_P k2
  exact ⟨h1, h2⟩
theorem negIx {r : List Nat} {j : Nat} (hj : j < r.length) : fIx (.list (dn r)) (.int (-(j : Int))) = some (.val (.int ((r.getD ((r.length - j) % r.length) 0 : Nat) : Int))) := by
  by_cases h0 : j = 0
  · subst h0
    rw [Nat.sub_zero, Nat.mod_self]
    exact ixL (p := r) (i := -((0 : Nat) : Int)) (j := 0) rfl hj
  · rw [Nat.mod_eq_of_lt (by omega)]
    exact ixLneg (by omega) (by omega) (by omega)
theorem oneMod {l j : Nat} (hj : j < l) : ((1 : Int) - (j : Int)) % (l : Int) = (((l + 1 - j) % l : Nat) : Int) := by
  have e : (1 : Int) - (j : Int) = ((l + 1 - j : Nat) : Int) - (l : Int) := by omega
  rw [e, Int.sub_emod_right, Int.natCast_emod]
structure Told (p A B : List Nat) (n : Nat) : Prop where
  a : Perm0 A n
  b : Perm0 B n
  aa : bh A A = List.range n
  bb : bh B B = List.range n
  ab : bh A B = p
theorem turns_math {p A B : List Nat} {n : Nat} {R : List (List Nat)} (hp : Perm0 p n) (hok : RingsOk p R) (hcov : ∀ x, x ∈ R.flatten ↔ x < n) (ha : Wr R (fun i l => (l - i) % l) A n) (hb : Wr R (fun i l => (l + 1 - i) % l) B n) : Told p A B n := by
  have at' : ∀ x, x < n → ∃ r ∈ R, ∃ i, i < r.length ∧ r.getD i 0 = x := fun x hx => by
    obtain ⟨r, hr, hxr⟩ := List.mem_flatten.mp ((hcov x).mpr hx)
    obtain ⟨i, hi, e⟩ := mem_getD hxr
    exact ⟨r, hr, i, hi, e⟩
  have lt : ∀ r ∈ R, ∀ i, i < r.length → r.getD i 0 < n := fun r hr i hi => (hcov _).mp (List.mem_flatten.mpr ⟨r, hr, getD_mem hi⟩)
  have alt : ∀ x, x < n → A.getD x 0 < n := fun x hx => by
    obtain ⟨r, hr, i, hi, rfl⟩ := at' x hx
    rw [ha.2 r hr i hi]
    exact lt r hr _ (Nat.mod_lt _ (by omega))
  have blt : ∀ x, x < n → B.getD x 0 < n := fun x hx => by
    obtain ⟨r, hr, i, hi, rfl⟩ := at' x hx
    rw [hb.2 r hr i hi]
    exact lt r hr _ (Nat.mod_lt _ (by omega))
  have ainv : ∀ x, x < n → A.getD (A.getD x 0) 0 = x := fun x hx => by
    obtain ⟨r, hr, i, hi, rfl⟩ := at' x hx
    rw [ha.2 r hr i hi, ha.2 r hr _ (Nat.mod_lt _ (by omega))]
    congr 1
    show (r.length - (r.length - i) % r.length) % r.length = i
    by_cases h0 : i = 0
    · subst h0; simp
    · rw [Nat.mod_eq_of_lt (show r.length - i < r.length by omega), Nat.mod_eq_of_lt (by omega)]
      omega
  have binv : ∀ x, x < n → B.getD (B.getD x 0) 0 = x := fun x hx => by
    obtain ⟨r, hr, i, hi, rfl⟩ := at' x hx
    rw [hb.2 r hr i hi, hb.2 r hr _ (Nat.mod_lt _ (by omega))]
    congr 1
    show (r.length + 1 - (r.length + 1 - i) % r.length) % r.length = i
    by_cases h0 : i = 0
    · subst h0
      rw [Nat.sub_zero, Nat.add_mod_left]
      by_cases h1 : r.length = 1
      · rw [h1]
      · rw [Nat.mod_eq_of_lt (show 1 < r.length by omega), Nat.add_sub_cancel, Nat.mod_self]
    · by_cases h1 : i = 1
      · subst h1
        rw [Nat.add_sub_cancel, Nat.mod_self, Nat.sub_zero, Nat.add_mod_left, Nat.mod_eq_of_lt hi]
      · rw [Nat.mod_eq_of_lt (show r.length + 1 - i < r.length by omega), Nat.mod_eq_of_lt (by omega)]
        omega
  refine ⟨perm_of_inv ha.1 alt ainv, perm_of_inv hb.1 blt binv, bh_id ha.1 ainv, bh_id hb.1 binv, ?_⟩
  unfold bh
  refine ext_getD (by rw [List.length_map, ha.1, hp.len]) fun x hx => ?_
  rw [List.length_map, ha.1] at hx
  rw [getD_map (by rw [ha.1]; exact hx)]
  obtain ⟨r, hr, i, hi, rfl⟩ := at' x hx
  rw [ha.2 r hr i hi, hb.2 r hr _ (Nat.mod_lt _ (by omega)), (hok.ok r hr).2 i hi]
  congr 1
  show (r.length + 1 - (r.length - i) % r.length) % r.length = (i + 1) % r.length
  by_cases h0 : i = 0
  · subst h0
    rw [Nat.sub_zero, Nat.mod_self, Nat.sub_zero, Nat.add_mod_left, Nat.zero_add]
  · rw [Nat.mod_eq_of_lt (show r.length - i < r.length by omega)]
    congr 1
    omega
theorem turns_ok {p : List Nat} {n : Nat} (hp : Perm0 p n) (hn : n ≤ 1000) : ∃ A B, fn_7 [.val (.tuple (dn p))] = .ok (.val (.tuple [.tuple (dn A), .tuple (dn B)])) none ∧ Told p A B n := by
  have hpl := hp.len
  obtain ⟨R, hR, hok, hcov⟩ := rings_ok hp hn
  have key : WF (fn_7 [.val (.tuple (dn p))]) (fun r io => ∃ A B, r = .val (.tuple [.tuple (dn A), .tuple (dn B)]) ∧ io = none ∧ Told p A B n) := by
    refine body_P rfl rfl ?_
    show WP (ms_7 [.val (.tuple (dn p)), .no, .no, .no, .no, .no]) _
    have rg : fRgL 0 (p.length : Int) = some (.own (dn (List.range n))) := by rw [hpl]; exact rgL rfl (by omega)
    simp only [ms_7, z_And, z_AndV, z_Args, z_Args0, z_Asg, z_BV, z_Bin, z_Break, z_C, z_CallB, z_Chain, z_Comp, z_Cont, z_DGet, z_DIn, z_DPut, z_Enum, z_Expr, z_For, z_Group, z_If, z_It, z_List, z_Meth, z_NewK, z_NewT, z_Next, z_Nm, z_NoP, z_Not, z_Op, z_Or, z_OrV, z_P, z_Par, z_Pass, z_Pk, z_Read, z_Ret, z_RetN, z_Rg1, z_Rg2, z_SIf, z_Seq, z_Sl, z_Sub, z_TB, z_Take, z_Tru, z_Tu, z_Tup, z_Turn, z_Un, z_Var, z_abs, z_agK, z_andF, z_andT, z_andVF, z_andVT, z_apI, z_apO, z_app1, z_app2, z_appA, z_ar1, z_ar2, z_arK, z_arK2, z_argP, z_argS, z_argV, z_args, z_args0, z_asK, z_asK2, z_atI, z_atK, z_atO, z_atV, z_augE, z_augF, z_binK, z_binK2, z_bvK, z_callE, z_cbK, z_chK, z_chK2, z_chain2, z_chnF, z_chnT, z_clB, z_clK, z_coK, z_dgK, z_dgK2, z_dget, z_diK, z_diK2, z_din, z_dispL, z_dispT, z_dvget, z_exK, z_exc, z_go, z_go0, z_goK, z_gotD, z_gotIn, z_grK, z_ifF, z_ifT, z_ifVF, z_ifVT, z_int, z_intB, z_io0, z_ioP, z_ioS, z_ioV, z_isL, z_isO, z_itE, z_itL, z_itS, z_itT, z_kpO, z_kpV, z_lenL, z_lenT, z_liK, z_lisL, z_lisT, z_lkK, z_look0, z_look1, z_lookD, z_lookDK, z_lookP, z_lookV, z_mCall, z_meB, z_meI, z_meK, z_meO, z_meR, z_no, z_notK, z_npK, z_npO, z_npS, z_npV, z_ok, z_one0, z_oneP, z_oneS, z_oneV, z_opO, z_opP, z_opS, z_opV, z_orF, z_orT, z_orVF, z_orVT, z_pI, z_paB, z_paK, z_paK2, z_pkK, z_puB, z_puK, z_putI, z_putM, z_putO, z_putV, z_r1K, z_r2K, z_r2K2, z_rdB, z_rdK, z_rdK2, z_rdM, z_reK, z_ret, z_retI, z_retN, z_rg1, z_rg2, z_rgI1, z_rgI2, z_rtV, z_saI, z_saO, z_seqB, z_seqC, z_seqN, z_seqR, z_sl, z_slK, z_slK2, z_slK3, z_slice, z_suB, z_suK, z_tK, z_tO, z_tV, z_tbK, z_tnK, z_truB, z_truI, z_truK, z_truL, z_truN, z_truT, z_tst, z_tuK, z_tupL, z_tupT, z_unK, z_vO, z_vS, z_vV, z_vals, z_vals0, z_wpB, z_wpO, z_yes, List.set_cons_zero, List.set_cons_succ, List.getElem?_cons_zero, List.getElem?_cons_succ, List.length_cons, List.length_nil, Bool.not_true, Bool.not_false, if_true, if_false, Bool.false_eq_true, reduceCtorEq, and_self, and_true, true_and, y_addI, y_sub, y_lt, y_gt, y_le, y_ge, y_neg, y_eqI, y_neI, Nat.reduceAdd, Nat.reduceLT, Nat.reduceLeDiff, decide_eq_true_eq, sz, Nat.zero_le, dn_len, List.isEmpty_cons, List.isEmpty_nil, List.cons_append, List.nil_append, List.all_cons, List.all_nil, Bool.and_true, Bool.true_and, Bool.and_self, rg, hR]
    refine forL_P (fun m e => ∃ q q2 t3 t4 t5, e = [.val (.tuple (dn p)), .own (dn q), .own (dn q2), t3, t4, t5] ∧ Wr (R.take m) (fun i l => (l - i) % l) q n ∧ Wr (R.take m) (fun i l => (l + 1 - i) % l) q2 n) (fun m d e hd hI => ?_) (fun e hI => ?_)
      ⟨List.range n, List.range n, .no, .no, .no, rfl, ⟨List.length_range, fun r h => by simp at h⟩, ⟨List.length_range, fun r h => by simp at h⟩⟩
    · obtain ⟨q, q2, t3, t4, t5, rfl, hw, hw2⟩ := hI
      obtain ⟨r, hr, rfl⟩ := lrs_at hd
      have hrm : r ∈ R := List.mem_of_getElem? hr
      have hro := hok.ok r hrm
      have hrl := List.length_pos_iff.mpr hro.1
      simp only [z_And, z_AndV, z_Args, z_Args0, z_Asg, z_BV, z_Bin, z_Break, z_C, z_CallB, z_Chain, z_Comp, z_Cont, z_DGet, z_DIn, z_DPut, z_Enum, z_Expr, z_For, z_Group, z_If, z_It, z_List, z_Meth, z_NewK, z_NewT, z_Next, z_Nm, z_NoP, z_Not, z_Op, z_Or, z_OrV, z_P, z_Par, z_Pass, z_Pk, z_Read, z_Ret, z_RetN, z_Rg1, z_Rg2, z_SIf, z_Seq, z_Sl, z_Sub, z_TB, z_Take, z_Tru, z_Tu, z_Tup, z_Turn, z_Un, z_Var, z_abs, z_agK, z_andF, z_andT, z_andVF, z_andVT, z_apI, z_apO, z_app1, z_app2, z_appA, z_ar1, z_ar2, z_arK, z_arK2, z_argP, z_argS, z_argV, z_args, z_args0, z_asK, z_asK2, z_atI, z_atK, z_atO, z_atV, z_augE, z_augF, z_binK, z_binK2, z_bvK, z_callE, z_cbK, z_chK, z_chK2, z_chain2, z_chnF, z_chnT, z_clB, z_clK, z_coK, z_dgK, z_dgK2, z_dget, z_diK, z_diK2, z_din, z_dispL, z_dispT, z_dvget, z_exK, z_exc, z_go, z_go0, z_goK, z_gotD, z_gotIn, z_grK, z_ifF, z_ifT, z_ifVF, z_ifVT, z_int, z_intB, z_io0, z_ioP, z_ioS, z_ioV, z_isL, z_isO, z_itE, z_itL, z_itS, z_itT, z_kpO, z_kpV, z_lenL, z_lenT, z_liK, z_lisL, z_lisT, z_lkK, z_look0, z_look1, z_lookD, z_lookDK, z_lookP, z_lookV, z_mCall, z_meB, z_meI, z_meK, z_meO, z_meR, z_no, z_notK, z_npK, z_npO, z_npS, z_npV, z_ok, z_one0, z_oneP, z_oneS, z_oneV, z_opO, z_opP, z_opS, z_opV, z_orF, z_orT, z_orVF, z_orVT, z_pI, z_paB, z_paK, z_paK2, z_pkK, z_puB, z_puK, z_putI, z_putM, z_putO, z_putV, z_r1K, z_r2K, z_r2K2, z_rdB, z_rdK, z_rdK2, z_rdM, z_reK, z_ret, z_retI, z_retN, z_rg1, z_rg2, z_rgI1, z_rgI2, z_rtV, z_saI, z_saO, z_seqB, z_seqC, z_seqN, z_seqR, z_sl, z_slK, z_slK2, z_slK3, z_slice, z_suB, z_suK, z_tK, z_tO, z_tV, z_tbK, z_tnK, z_truB, z_truI, z_truK, z_truL, z_truN, z_truT, z_tst, z_tuK, z_tupL, z_tupT, z_unK, z_vO, z_vS, z_vV, z_vals, z_vals0, z_wpB, z_wpO, z_yes, List.set_cons_zero, List.set_cons_succ, List.getElem?_cons_zero, List.getElem?_cons_succ, List.length_cons, List.length_nil, Bool.not_true, Bool.not_false, if_true, if_false, Bool.false_eq_true, reduceCtorEq, and_self, and_true, true_and, y_addI, y_sub, y_lt, y_gt, y_le, y_ge, y_neg, y_eqI, y_neI, Nat.reduceAdd, Nat.reduceLT, Nat.reduceLeDiff, decide_eq_true_eq, sz, Nat.zero_le, dn_len, List.isEmpty_cons, List.isEmpty_nil, List.cons_append, List.nil_append, List.all_cons, List.all_nil, Bool.and_true, Bool.true_and, Bool.and_self]
      refine forL_P (fun j e => ∃ q q2 t4 t5, e = [.val (.tuple (dn p)), .own (dn q), .own (dn q2), .val (.list (dn r)), t4, t5] ∧ (Wr (R.take m) (fun i l => (l - i) % l) q n ∧ WrI r (fun i l => (l - i) % l) q j) ∧ Wr (R.take m) (fun i l => (l + 1 - i) % l) q2 n ∧ WrI r (fun i l => (l + 1 - i) % l) q2 j)
        (fun j d e hd hI => ?_) (fun e hI => ?_) ⟨q, q2, t4, t5, rfl, ⟨hw, fun i hi => absurd hi (Nat.not_lt_zero _)⟩, hw2, fun i hi => absurd hi (Nat.not_lt_zero _)⟩
      · obtain ⟨q, q2, t4, t5, rfl, ⟨hw, hwi⟩, hw2, hwi2⟩ := hI
        obtain ⟨hj, rfl⟩ := enum_dn hd
        have hlt : r.getD j 0 < n := (hcov _).mp (List.mem_flatten.mpr ⟨r, hrm, getD_mem hj⟩)
        have s1 := wr_step (flat_take hr hok.nd) hw hwi hj hlt
        have s2 := wr_step (flat_take hr hok.nd) hw2 hwi2 hj hlt
        have i1 := negIx (r := r) (j := j) hj
        have i2 : ixN q.length ((r.getD j 0 : Nat) : Int) = some (r.getD j 0) := ixN_nat rfl (by rw [hw.1]; exact hlt)
        have i3 : ixN q2.length ((r.getD j 0 : Nat) : Int) = some (r.getD j 0) := ixN_nat rfl (by rw [hw2.1]; exact hlt)
        have i4 := ixLi (p := r) (j := (r.length + 1 - j) % r.length) (Nat.mod_lt _ hrl)
        simp only [z_And, z_AndV, z_Args, z_Args0, z_Asg, z_BV, z_Bin, z_Break, z_C, z_CallB, z_Chain, z_Comp, z_Cont, z_DGet, z_DIn, z_DPut, z_Enum, z_Expr, z_For, z_Group, z_If, z_It, z_List, z_Meth, z_NewK, z_NewT, z_Next, z_Nm, z_NoP, z_Not, z_Op, z_Or, z_OrV, z_P, z_Par, z_Pass, z_Pk, z_Read, z_Ret, z_RetN, z_Rg1, z_Rg2, z_SIf, z_Seq, z_Sl, z_Sub, z_TB, z_Take, z_Tru, z_Tu, z_Tup, z_Turn, z_Un, z_Var, z_abs, z_agK, z_andF, z_andT, z_andVF, z_andVT, z_apI, z_apO, z_app1, z_app2, z_appA, z_ar1, z_ar2, z_arK, z_arK2, z_argP, z_argS, z_argV, z_args, z_args0, z_asK, z_asK2, z_atI, z_atK, z_atO, z_atV, z_augE, z_augF, z_binK, z_binK2, z_bvK, z_callE, z_cbK, z_chK, z_chK2, z_chain2, z_chnF, z_chnT, z_clB, z_clK, z_coK, z_dgK, z_dgK2, z_dget, z_diK, z_diK2, z_din, z_dispL, z_dispT, z_dvget, z_exK, z_exc, z_go, z_go0, z_goK, z_gotD, z_gotIn, z_grK, z_ifF, z_ifT, z_ifVF, z_ifVT, z_int, z_intB, z_io0, z_ioP, z_ioS, z_ioV, z_isL, z_isO, z_itE, z_itL, z_itS, z_itT, z_kpO, z_kpV, z_lenL, z_lenT, z_liK, z_lisL, z_lisT, z_lkK, z_look0, z_look1, z_lookD, z_lookDK, z_lookP, z_lookV, z_mCall, z_meB, z_meI, z_meK, z_meO, z_meR, z_no, z_notK, z_npK, z_npO, z_npS, z_npV, z_ok, z_one0, z_oneP, z_oneS, z_oneV, z_opO, z_opP, z_opS, z_opV, z_orF, z_orT, z_orVF, z_orVT, z_pI, z_paB, z_paK, z_paK2, z_pkK, z_puB, z_puK, z_putI, z_putM, z_putO, z_putV, z_r1K, z_r2K, z_r2K2, z_rdB, z_rdK, z_rdK2, z_rdM, z_reK, z_ret, z_retI, z_retN, z_rg1, z_rg2, z_rgI1, z_rgI2, z_rtV, z_saI, z_saO, z_seqB, z_seqC, z_seqN, z_seqR, z_sl, z_slK, z_slK2, z_slK3, z_slice, z_suB, z_suK, z_tK, z_tO, z_tV, z_tbK, z_tnK, z_truB, z_truI, z_truK, z_truL, z_truN, z_truT, z_tst, z_tuK, z_tupL, z_tupT, z_unK, z_vO, z_vS, z_vV, z_vals, z_vals0, z_wpB, z_wpO, z_yes, List.set_cons_zero, List.set_cons_succ, List.getElem?_cons_zero, List.getElem?_cons_succ, List.length_cons, List.length_nil, Bool.not_true, Bool.not_false, if_true, if_false, Bool.false_eq_true, reduceCtorEq, and_self, and_true, true_and, y_addI, y_sub, y_lt, y_gt, y_le, y_ge, y_neg, y_eqI, y_neI, Nat.reduceAdd, Nat.reduceLT, Nat.reduceLeDiff, decide_eq_true_eq, sz, Nat.zero_le, dn_len, List.isEmpty_cons, List.isEmpty_nil, List.cons_append, List.nil_append, List.all_cons, List.all_nil, Bool.and_true, Bool.true_and, Bool.and_self, oneMod hj, y_mod (show (0 : Int) < (r.length : Int) by omega), i1, i2, i3, i4, dn_setI]
        exact ⟨_, _, _, _, rfl, s1, s2⟩
      · obtain ⟨q, q2, t4, t5, rfl, ⟨hw, hwi⟩, hw2, hwi2⟩ := hI
        rw [enum_len, dn_len] at hwi hwi2
        exact ⟨q, q2, _, _, _, rfl, by rw [take_succ' hr]; exact wr_close hw hwi, by rw [take_succ' hr]; exact wr_close hw2 hwi2⟩
    · obtain ⟨q, q2, t3, t4, t5, rfl, hw, hw2⟩ := hI
      have hl : (lrs R).length = R.length := by unfold lrs; rw [List.length_map]
      rw [hl, List.take_length] at hw hw2
      simp only [z_And, z_AndV, z_Args, z_Args0, z_Asg, z_BV, z_Bin, z_Break, z_C, z_CallB, z_Chain, z_Comp, z_Cont, z_DGet, z_DIn, z_DPut, z_Enum, z_Expr, z_For, z_Group, z_If, z_It, z_List, z_Meth, z_NewK, z_NewT, z_Next, z_Nm, z_NoP, z_Not, z_Op, z_Or, z_OrV, z_P, z_Par, z_Pass, z_Pk, z_Read, z_Ret, z_RetN, z_Rg1, z_Rg2, z_SIf, z_Seq, z_Sl, z_Sub, z_TB, z_Take, z_Tru, z_Tu, z_Tup, z_Turn, z_Un, z_Var, z_abs, z_agK, z_andF, z_andT, z_andVF, z_andVT, z_apI, z_apO, z_app1, z_app2, z_appA, z_ar1, z_ar2, z_arK, z_arK2, z_argP, z_argS, z_argV, z_args, z_args0, z_asK, z_asK2, z_atI, z_atK, z_atO, z_atV, z_augE, z_augF, z_binK, z_binK2, z_bvK, z_callE, z_cbK, z_chK, z_chK2, z_chain2, z_chnF, z_chnT, z_clB, z_clK, z_coK, z_dgK, z_dgK2, z_dget, z_diK, z_diK2, z_din, z_dispL, z_dispT, z_dvget, z_exK, z_exc, z_go, z_go0, z_goK, z_gotD, z_gotIn, z_grK, z_ifF, z_ifT, z_ifVF, z_ifVT, z_int, z_intB, z_io0, z_ioP, z_ioS, z_ioV, z_isL, z_isO, z_itE, z_itL, z_itS, z_itT, z_kpO, z_kpV, z_lenL, z_lenT, z_liK, z_lisL, z_lisT, z_lkK, z_look0, z_look1, z_lookD, z_lookDK, z_lookP, z_lookV, z_mCall, z_meB, z_meI, z_meK, z_meO, z_meR, z_no, z_notK, z_npK, z_npO, z_npS, z_npV, z_ok, z_one0, z_oneP, z_oneS, z_oneV, z_opO, z_opP, z_opS, z_opV, z_orF, z_orT, z_orVF, z_orVT, z_pI, z_paB, z_paK, z_paK2, z_pkK, z_puB, z_puK, z_putI, z_putM, z_putO, z_putV, z_r1K, z_r2K, z_r2K2, z_rdB, z_rdK, z_rdK2, z_rdM, z_reK, z_ret, z_retI, z_retN, z_rg1, z_rg2, z_rgI1, z_rgI2, z_rtV, z_saI, z_saO, z_seqB, z_seqC, z_seqN, z_seqR, z_sl, z_slK, z_slK2, z_slK3, z_slice, z_suB, z_suK, z_tK, z_tO, z_tV, z_tbK, z_tnK, z_truB, z_truI, z_truK, z_truL, z_truN, z_truT, z_tst, z_tuK, z_tupL, z_tupT, z_unK, z_vO, z_vS, z_vV, z_vals, z_vals0, z_wpB, z_wpO, z_yes, List.set_cons_zero, List.set_cons_succ, List.getElem?_cons_zero, List.getElem?_cons_succ, List.length_cons, List.length_nil, Bool.not_true, Bool.not_false, if_true, if_false, Bool.false_eq_true, reduceCtorEq, and_self, and_true, true_and, y_addI, y_sub, y_lt, y_gt, y_le, y_ge, y_neg, y_eqI, y_neI, Nat.reduceAdd, Nat.reduceLT, Nat.reduceLeDiff, decide_eq_true_eq, sz, Nat.zero_le, dn_len, List.isEmpty_cons, List.isEmpty_nil, List.cons_append, List.nil_append, List.all_cons, List.all_nil, Bool.and_true, Bool.true_and, Bool.and_self]
      exact ⟨q, q2, rfl, rfl, turns_math hp hok hcov hw hw2⟩
  obtain ⟨r, io, h, A, B, rfl, rfl, h2⟩ := ok_of_P key
  exact ⟨A, B, h, h2⟩
end VP
namespace VP
open PySem VL L2
/-! ### what is a table, what is a pair of two turns -/
def di (ns : List Int) : List Da := ns.map PyData.int
theorem di_dn {p : List Nat} : di (p.map fun (x : Nat) => (x : Int)) = dn p := by unfold di dn; rw [List.map_map]; rfl
theorem eqv_di : ∀ {p q : List Int}, PyData.eqvAll (di p) (di q) = decide (p = q)
  | [], [] => by show PyData.eqvAll [] [] = _; rw [PyData.eqvAll]; rfl
  | [], y :: q => by show PyData.eqvAll [] (.int y :: di q) = _; rw [PyData.eqvAll]; rfl
  | x :: p, [] => by show PyData.eqvAll (.int x :: di p) [] = _; rw [PyData.eqvAll]; rfl
  | x :: p, y :: q => by
    show PyData.eqvAll (.int x :: di p) (.int y :: di q) = _
    rw [PyData.eqvAll, eqv_di (p := p) (q := q), PyData.eqv]
    by_cases h : x = y
    · subst h
      by_cases h2 : p = q
      · subst h2; simp
      · simp [h2]
    · have : (x == y) = false := by simpa using h
      rw [this]
      simp [h]
theorem lay_di : ∀ {p : List Int}, PyData.canLayAll0 (di p) = true
  | [] => by show PyData.canLayAll0 [] = true; rw [PyData.canLayAll0]
  | x :: p => by
    show PyData.canLayAll0 (.int x :: di p) = true
    rw [PyData.canLayAll0, lay_di (p := p), PyData.canLay0]
    rfl
theorem dep_di : ∀ {p : List Int}, PyData.depthAll (di p) = 0
  | [] => by show PyData.depthAll [] = 0; rw [PyData.depthAll]
  | x :: p => by
    show PyData.depthAll (.int x :: di p) = 0
    rw [PyData.depthAll, dep_di (p := p), PyData.depth]
    rfl
theorem shLi {p : List Int} : SeqAt.shaped (.list (di p)) = true := by
  unfold SeqAt.shaped
  rw [PyData.canLay0, lay_di, PyData.depth, dep_di]
  rfl
theorem eqLi {p q : List Int} : fEq (.list (di p)) (.list (di q)) = some (.val (.bool (decide (p = q)))) := by
  unfold fEq
  rw [if_pos ⟨shLi, shLi⟩, PyData.eqv, eqv_di]
def notD : Da → Bool
  | .dict _ => false
  | _ => true
def flat1 : Da → Bool
  | .dict _ => false
  | .tuple xs => xs.all notD && decide (xs.length ≤ 1000)
  | _ => true
def isNum (d : Da) : Bool := isInt d && !isBool d
def tabI (n : Nat) : Option (List Int) → Bool
  | some ns => decide (isort ns = (List.range n).map fun (x : Nat) => (x : Int))
  | none => false
def tabB (n : Nat) : Da → Bool
  | .tuple xs => decide (xs.length = n) && tabI n (intsOf xs)
  | _ => false
theorem nums_all : ∀ {xs : List Da}, xs.all isNum = true → ∃ ns, intsOf xs = some ns
  | [], _ => ⟨[], rfl⟩
  | x :: xs, h => by
    rw [List.all_cons, Bool.and_eq_true] at h
    obtain ⟨ns, e⟩ := nums_all h.2
    cases x with
    | int i => exact ⟨i :: ns, by unfold intsOf; rw [e]⟩
    | bool b => cases h.1
    | none => cases h.1
    | str x => cases h.1
    | list x => cases h.1
    | tuple x => cases h.1
    | dict x => cases h.1
theorem nums_no : ∀ {xs : List Da}, xs.all isNum = false → intsOf xs = none
  | [], h => by cases h
  | x :: xs, h => by
    cases x with
    | int i =>
      rw [List.all_cons] at h
      have : xs.all isNum = false := by
        have e : isNum (.int i) = true := rfl
        rw [e, Bool.true_and] at h
        exact h
      unfold intsOf
      rw [nums_no this]
    | _ => rfl
theorem bools_map {f : Da → Bool} : ∀ {xs : List Da}, boolsOf (xs.map fun d => PyData.bool (f d)) = some (xs.map f)
  | [] => rfl
  | x :: xs => by
    rw [List.map_cons, boolsOf, bools_map (xs := xs)]
    rfl
theorem all_map {f : Da → Bool} {xs : List Da} : fAll (.list (xs.map fun d => PyData.bool (f d))) = some (.val (.bool (xs.all f))) := by
  simp only [fAll, bools_map]
  rw [List.all_map]
  rfl
theorem isi_nd {g : Da → Bool} {d : Da} (h : notD d = true) : fIsi g d = some (.val (.bool (g d))) := by
  cases d <;> first | rfl | cases h
theorem sortT {xs : List Da} {ns : List Int} (h : intsOf xs = some ns) : fSorted (.tuple xs) = some (.own (di (isort ns))) := by
  show (none : Option Sl).or ((sortI (intsOf xs)).or _) = _
  rw [h]
  rfl
theorem num_comp {xs : List Da} {n : Int} (h : xs.all notD = true) (hl : xs.length ≤ 1000) : compL (.one 2) yesT (mAndV (mUn (fIsi isInt) (mPk 2)) (mBV (mNot (mTB (mUn (fIsi isBool) (mPk 2)))))) [2] xs [] [.val (.tuple xs), .val (.int n), .no] = .ok (.own (xs.map fun d => PyData.bool (isNum d))) [.val (.tuple xs), .val (.int n), .no] := by
  have hc := comp_all (ct := .one 2) (t := yesT) (m := mAndV (mUn (fIsi isInt) (mPk 2)) (mBV (mNot (mTB (mUn (fIsi isBool) (mPk 2)))))) (vs := [2]) (env := [.val (.tuple xs), .val (.int n), .no]) rfl (fun d => PyData.bool (isNum d)) xs [] (by rw [List.length_nil, sz]; omega) fun d hd => by
    have nd := List.all_eq_true.mp h d hd
    refine ⟨[.val (.tuple xs), .val (.int n), .val d], [.val (.tuple xs), .val (.int n), .val d], [.val (.tuple xs), .val (.int n), .val d], rfl, rfl, ?_, rfl⟩
    unfold isNum
    cases hi : isInt d with
    | true =>
      simp only [z_And, z_AndV, z_Args, z_Args0, z_Asg, z_BV, z_Bin, z_Break, z_C, z_CallB, z_Chain, z_Comp, z_Cont, z_DGet, z_DIn, z_DPut, z_Enum, z_Expr, z_For, z_Group, z_If, z_It, z_List, z_Meth, z_NewK, z_NewT, z_Next, z_Nm, z_NoP, z_Not, z_Op, z_Or, z_OrV, z_P, z_Par, z_Pass, z_Pk, z_Read, z_Ret, z_RetN, z_Rg1, z_Rg2, z_SIf, z_Seq, z_Sl, z_Sub, z_TB, z_Take, z_Tru, z_Tu, z_Tup, z_Turn, z_Un, z_Var, z_abs, z_agK, z_andF, z_andT, z_andVF, z_andVT, z_apI, z_apO, z_app1, z_app2, z_appA, z_ar1, z_ar2, z_arK, z_arK2, z_argP, z_argS, z_argV, z_args, z_args0, z_asK, z_asK2, z_atI, z_atK, z_atO, z_atV, z_augE, z_augF, z_binK, z_binK2, z_bvK, z_callE, z_cbK, z_chK, z_chK2, z_chain2, z_chnF, z_chnT, z_clB, z_clK, z_coK, z_dgK, z_dgK2, z_dget, z_diK, z_diK2, z_din, z_dispL, z_dispT, z_dvget, z_exK, z_exc, z_go, z_go0, z_goK, z_gotD, z_gotIn, z_grK, z_ifF, z_ifT, z_ifVF, z_ifVT, z_int, z_intB, z_io0, z_ioP, z_ioS, z_ioV, z_isL, z_isO, z_itE, z_itL, z_itS, z_itT, z_kpO, z_kpV, z_lenL, z_lenT, z_liK, z_lisL, z_lisT, z_lkK, z_look0, z_look1, z_lookD, z_lookDK, z_lookP, z_lookV, z_mCall, z_meB, z_meI, z_meK, z_meO, z_meR, z_no, z_notK, z_npK, z_npO, z_npS, z_npV, z_ok, z_one0, z_oneP, z_oneS, z_oneV, z_opO, z_opP, z_opS, z_opV, z_orF, z_orT, z_orVF, z_orVT, z_pI, z_paB, z_paK, z_paK2, z_pkK, z_puB, z_puK, z_putI, z_putM, z_putO, z_putV, z_r1K, z_r2K, z_r2K2, z_rdB, z_rdK, z_rdK2, z_rdM, z_reK, z_ret, z_retI, z_retN, z_rg1, z_rg2, z_rgI1, z_rgI2, z_rtV, z_saI, z_saO, z_seqB, z_seqC, z_seqN, z_seqR, z_sl, z_slK, z_slK2, z_slK3, z_slice, z_suB, z_suK, z_tK, z_tO, z_tV, z_tbK, z_tnK, z_truB, z_truI, z_truK, z_truL, z_truN, z_truT, z_tst, z_tuK, z_tupL, z_tupT, z_unK, z_vO, z_vS, z_vV, z_vals, z_vals0, z_wpB, z_wpO, z_yes, List.set_cons_zero, List.set_cons_succ, List.getElem?_cons_zero, List.getElem?_cons_succ, List.length_cons, List.length_nil, Bool.not_true, Bool.not_false, if_true, if_false, Bool.false_eq_true, reduceCtorEq, and_self, and_true, true_and, y_addI, y_sub, y_lt, y_gt, y_le, y_ge, y_neg, y_eqI, y_neI, Nat.reduceAdd, Nat.reduceLT, Nat.reduceLeDiff, decide_eq_true_eq, sz, Nat.zero_le, dn_len, List.isEmpty_cons, List.isEmpty_nil, List.cons_append, List.nil_append, List.all_cons, List.all_nil, Bool.and_true, Bool.true_and, Bool.and_self, isi_nd nd, hi]
    | false =>
      simp only [z_And, z_AndV, z_Args, z_Args0, z_Asg, z_BV, z_Bin, z_Break, z_C, z_CallB, z_Chain, z_Comp, z_Cont, z_DGet, z_DIn, z_DPut, z_Enum, z_Expr, z_For, z_Group, z_If, z_It, z_List, z_Meth, z_NewK, z_NewT, z_Next, z_Nm, z_NoP, z_Not, z_Op, z_Or, z_OrV, z_P, z_Par, z_Pass, z_Pk, z_Read, z_Ret, z_RetN, z_Rg1, z_Rg2, z_SIf, z_Seq, z_Sl, z_Sub, z_TB, z_Take, z_Tru, z_Tu, z_Tup, z_Turn, z_Un, z_Var, z_abs, z_agK, z_andF, z_andT, z_andVF, z_andVT, z_apI, z_apO, z_app1, z_app2, z_appA, z_ar1, z_ar2, z_arK, z_arK2, z_argP, z_argS, z_argV, z_args, z_args0, z_asK, z_asK2, z_atI, z_atK, z_atO, z_atV, z_augE, z_augF, z_binK, z_binK2, z_bvK, z_callE, z_cbK, z_chK, z_chK2, z_chain2, z_chnF, z_chnT, z_clB, z_clK, z_coK, z_dgK, z_dgK2, z_dget, z_diK, z_diK2, z_din, z_dispL, z_dispT, z_dvget, z_exK, z_exc, z_go, z_go0, z_goK, z_gotD, z_gotIn, z_grK, z_ifF, z_ifT, z_ifVF, z_ifVT, z_int, z_intB, z_io0, z_ioP, z_ioS, z_ioV, z_isL, z_isO, z_itE, z_itL, z_itS, z_itT, z_kpO, z_kpV, z_lenL, z_lenT, z_liK, z_lisL, z_lisT, z_lkK, z_look0, z_look1, z_lookD, z_lookDK, z_lookP, z_lookV, z_mCall, z_meB, z_meI, z_meK, z_meO, z_meR, z_no, z_notK, z_npK, z_npO, z_npS, z_npV, z_ok, z_one0, z_oneP, z_oneS, z_oneV, z_opO, z_opP, z_opS, z_opV, z_orF, z_orT, z_orVF, z_orVT, z_pI, z_paB, z_paK, z_paK2, z_pkK, z_puB, z_puK, z_putI, z_putM, z_putO, z_putV, z_r1K, z_r2K, z_r2K2, z_rdB, z_rdK, z_rdK2, z_rdM, z_reK, z_ret, z_retI, z_retN, z_rg1, z_rg2, z_rgI1, z_rgI2, z_rtV, z_saI, z_saO, z_seqB, z_seqC, z_seqN, z_seqR, z_sl, z_slK, z_slK2, z_slK3, z_slice, z_suB, z_suK, z_tK, z_tO, z_tV, z_tbK, z_tnK, z_truB, z_truI, z_truK, z_truL, z_truN, z_truT, z_tst, z_tuK, z_tupL, z_tupT, z_unK, z_vO, z_vS, z_vV, z_vals, z_vals0, z_wpB, z_wpO, z_yes, List.set_cons_zero, List.set_cons_succ, List.getElem?_cons_zero, List.getElem?_cons_succ, List.length_cons, List.length_nil, Bool.not_true, Bool.not_false, if_true, if_false, Bool.false_eq_true, reduceCtorEq, and_self, and_true, true_and, y_addI, y_sub, y_lt, y_gt, y_le, y_ge, y_neg, y_eqI, y_neI, Nat.reduceAdd, Nat.reduceLT, Nat.reduceLeDiff, decide_eq_true_eq, sz, Nat.zero_le, dn_len, List.isEmpty_cons, List.isEmpty_nil, List.cons_append, List.nil_append, List.all_cons, List.all_nil, Bool.and_true, Bool.true_and, Bool.and_self, isi_nd nd, hi, Bool.false_and]
  rw [List.nil_append] at hc
  exact hc
theorem table_ok {d : Da} {n : Nat} (hd : flat1 d = true) (hn : n ≤ 1000) : fn_6 [.val d, .val (.int (n : Int))] = .ok (.val (.bool (tabB n d))) none ∧ fn_20 [.val d, .val (.int (n : Int))] = .ok (.val (.bool (tabB n d))) none := by
  have fin : ∀ {o1 o2 : OutF}, WF o1 (fun r io => r = .val (.bool (tabB n d)) ∧ io = none) → WF o2 (fun r io => r = .val (.bool (tabB n d)) ∧ io = none) → o1 = .ok (.val (.bool (tabB n d))) none ∧ o2 = .ok (.val (.bool (tabB n d))) none := fun {o1 o2} h1 h2 => by
    obtain ⟨r, io, e1, rfl, rfl⟩ := ok_of_P h1
    obtain ⟨r, io, e2, rfl, rfl⟩ := ok_of_P h2
    exact ⟨e1, e2⟩
  have rg := rgL (n := n) (i := (n : Int)) rfl (by omega)
  by_cases ht : isTup d = true
  · cases d with
    | tuple xs =>
      have hf : xs.all notD = true ∧ xs.length ≤ 1000 := by
        have h : (xs.all notD && decide (xs.length ≤ 1000)) = true := hd
        rw [Bool.and_eq_true] at h
        exact ⟨h.1, of_decide_eq_true h.2⟩
      have it := isi_nd (g := isTup) (d := .tuple xs) rfl
      have it2 : isTup (.tuple xs) = true := rfl
      have hc := num_comp (n := (n : Int)) hf.1 hf.2
      by_cases hl : xs.length = n
      · have c1 : ((xs.length : Nat) : Int) = (n : Int) := by omega
        cases ha : xs.all isNum with
        | true =>
          obtain ⟨ns, hns⟩ := nums_all ha
          have e : tabB n (.tuple xs) = decide (isort ns = (List.range n).map fun (x : Nat) => (x : Int)) := by
            show (decide (xs.length = n) && tabI n (intsOf xs)) = _
            rw [hns, decide_eq_true hl, Bool.true_and]
            rfl
          rw [e] at fin ⊢
          refine fin ?_ ?_
          · refine body_P rfl rfl ?_
            show WP (ms_6 [.val (.tuple xs), .val (.int (n : Int)), .no]) _
            simp only [ms_6, z_And, z_AndV, z_Args, z_Args0, z_Asg, z_BV, z_Bin, z_Break, z_C, z_CallB, z_Chain, z_Comp, z_Cont, z_DGet, z_DIn, z_DPut, z_Enum, z_Expr, z_For, z_Group, z_If, z_It, z_List, z_Meth, z_NewK, z_NewT, z_Next, z_Nm, z_NoP, z_Not, z_Op, z_Or, z_OrV, z_P, z_Par, z_Pass, z_Pk, z_Read, z_Ret, z_RetN, z_Rg1, z_Rg2, z_SIf, z_Seq, z_Sl, z_Sub, z_TB, z_Take, z_Tru, z_Tu, z_Tup, z_Turn, z_Un, z_Var, z_abs, z_agK, z_andF, z_andT, z_andVF, z_andVT, z_apI, z_apO, z_app1, z_app2, z_appA, z_ar1, z_ar2, z_arK, z_arK2, z_argP, z_argS, z_argV, z_args, z_args0, z_asK, z_asK2, z_atI, z_atK, z_atO, z_atV, z_augE, z_augF, z_binK, z_binK2, z_bvK, z_callE, z_cbK, z_chK, z_chK2, z_chain2, z_chnF, z_chnT, z_clB, z_clK, z_coK, z_dgK, z_dgK2, z_dget, z_diK, z_diK2, z_din, z_dispL, z_dispT, z_dvget, z_exK, z_exc, z_go, z_go0, z_goK, z_gotD, z_gotIn, z_grK, z_ifF, z_ifT, z_ifVF, z_ifVT, z_int, z_intB, z_io0, z_ioP, z_ioS, z_ioV, z_isL, z_isO, z_itE, z_itL, z_itS, z_itT, z_kpO, z_kpV, z_lenL, z_lenT, z_liK, z_lisL, z_lisT, z_lkK, z_look0, z_look1, z_lookD, z_lookDK, z_lookP, z_lookV, z_mCall, z_meB, z_meI, z_meK, z_meO, z_meR, z_no, z_notK, z_npK, z_npO, z_npS, z_npV, z_ok, z_one0, z_oneP, z_oneS, z_oneV, z_opO, z_opP, z_opS, z_opV, z_orF, z_orT, z_orVF, z_orVT, z_pI, z_paB, z_paK, z_paK2, z_pkK, z_puB, z_puK, z_putI, z_putM, z_putO, z_putV, z_r1K, z_r2K, z_r2K2, z_rdB, z_rdK, z_rdK2, z_rdM, z_reK, z_ret, z_retI, z_retN, z_rg1, z_rg2, z_rgI1, z_rgI2, z_rtV, z_saI, z_saO, z_seqB, z_seqC, z_seqN, z_seqR, z_sl, z_slK, z_slK2, z_slK3, z_slice, z_suB, z_suK, z_tK, z_tO, z_tV, z_tbK, z_tnK, z_truB, z_truI, z_truK, z_truL, z_truN, z_truT, z_tst, z_tuK, z_tupL, z_tupT, z_unK, z_vO, z_vS, z_vV, z_vals, z_vals0, z_wpB, z_wpO, z_yes, List.set_cons_zero, List.set_cons_succ, List.getElem?_cons_zero, List.getElem?_cons_succ, List.length_cons, List.length_nil, Bool.not_true, Bool.not_false, if_true, if_false, Bool.false_eq_true, reduceCtorEq, and_self, and_true, true_and, y_addI, y_sub, y_lt, y_gt, y_le, y_ge, y_neg, y_eqI, y_neI, Nat.reduceAdd, Nat.reduceLT, Nat.reduceLeDiff, decide_eq_true_eq, sz, Nat.zero_le, dn_len, List.isEmpty_cons, List.isEmpty_nil, List.cons_append, List.nil_append, List.all_cons, List.all_nil, Bool.and_true, Bool.true_and, Bool.and_self, it, it2, decide_eq_true c1, hc, all_map, ha, sortT hns, rg, ← di_dn, eqLi]
            exact ⟨rfl, rfl⟩
          · refine body_P rfl rfl ?_
            show WP (ms_20 [.val (.tuple xs), .val (.int (n : Int)), .no]) _
            simp only [ms_20, z_And, z_AndV, z_Args, z_Args0, z_Asg, z_BV, z_Bin, z_Break, z_C, z_CallB, z_Chain, z_Comp, z_Cont, z_DGet, z_DIn, z_DPut, z_Enum, z_Expr, z_For, z_Group, z_If, z_It, z_List, z_Meth, z_NewK, z_NewT, z_Next, z_Nm, z_NoP, z_Not, z_Op, z_Or, z_OrV, z_P, z_Par, z_Pass, z_Pk, z_Read, z_Ret, z_RetN, z_Rg1, z_Rg2, z_SIf, z_Seq, z_Sl, z_Sub, z_TB, z_Take, z_Tru, z_Tu, z_Tup, z_Turn, z_Un, z_Var, z_abs, z_agK, z_andF, z_andT, z_andVF, z_andVT, z_apI, z_apO, z_app1, z_app2, z_appA, z_ar1, z_ar2, z_arK, z_arK2, z_argP, z_argS, z_argV, z_args, z_args0, z_asK, z_asK2, z_atI, z_atK, z_atO, z_atV, z_augE, z_augF, z_binK, z_binK2, z_bvK, z_callE, z_cbK, z_chK, z_chK2, z_chain2, z_chnF, z_chnT, z_clB, z_clK, z_coK, z_dgK, z_dgK2, z_dget, z_diK, z_diK2, z_din, z_dispL, z_dispT, z_dvget, z_exK, z_exc, z_go, z_go0, z_goK, z_gotD, z_gotIn, z_grK, z_ifF, z_ifT, z_ifVF, z_ifVT, z_int, z_intB, z_io0, z_ioP, z_ioS, z_ioV, z_isL, z_isO, z_itE, z_itL, z_itS, z_itT, z_kpO, z_kpV, z_lenL, z_lenT, z_liK, z_lisL, z_lisT, z_lkK, z_look0, z_look1, z_lookD, z_lookDK, z_lookP, z_lookV, z_mCall, z_meB, z_meI, z_meK, z_meO, z_meR, z_no, z_notK, z_npK, z_npO, z_npS, z_npV, z_ok, z_one0, z_oneP, z_oneS, z_oneV, z_opO, z_opP, z_opS, z_opV, z_orF, z_orT, z_orVF, z_orVT, z_pI, z_paB, z_paK, z_paK2, z_pkK, z_puB, z_puK, z_putI, z_putM, z_putO, z_putV, z_r1K, z_r2K, z_r2K2, z_rdB, z_rdK, z_rdK2, z_rdM, z_reK, z_ret, z_retI, z_retN, z_rg1, z_rg2, z_rgI1, z_rgI2, z_rtV, z_saI, z_saO, z_seqB, z_seqC, z_seqN, z_seqR, z_sl, z_slK, z_slK2, z_slK3, z_slice, z_suB, z_suK, z_tK, z_tO, z_tV, z_tbK, z_tnK, z_truB, z_truI, z_truK, z_truL, z_truN, z_truT, z_tst, z_tuK, z_tupL, z_tupT, z_unK, z_vO, z_vS, z_vV, z_vals, z_vals0, z_wpB, z_wpO, z_yes, List.set_cons_zero, List.set_cons_succ, List.getElem?_cons_zero, List.getElem?_cons_succ, List.length_cons, List.length_nil, Bool.not_true, Bool.not_false, if_true, if_false, Bool.false_eq_true, reduceCtorEq, and_self, and_true, true_and, y_addI, y_sub, y_lt, y_gt, y_le, y_ge, y_neg, y_eqI, y_neI, Nat.reduceAdd, Nat.reduceLT, Nat.reduceLeDiff, decide_eq_true_eq, sz, Nat.zero_le, dn_len, List.isEmpty_cons, List.isEmpty_nil, List.cons_append, List.nil_append, List.all_cons, List.all_nil, Bool.and_true, Bool.true_and, Bool.and_self, it, it2, decide_eq_true c1, hc, all_map, ha, sortT hns, rg, ← di_dn, eqLi]
            exact ⟨rfl, rfl⟩
        | false =>
          have e : tabB n (.tuple xs) = false := by
            show (decide (xs.length = n) && tabI n (intsOf xs)) = _
            rw [nums_no ha]
            exact Bool.and_false _
          rw [e] at fin ⊢
          refine fin ?_ ?_
          · refine body_P rfl rfl ?_
            show WP (ms_6 [.val (.tuple xs), .val (.int (n : Int)), .no]) _
            simp only [ms_6, z_And, z_AndV, z_Args, z_Args0, z_Asg, z_BV, z_Bin, z_Break, z_C, z_CallB, z_Chain, z_Comp, z_Cont, z_DGet, z_DIn, z_DPut, z_Enum, z_Expr, z_For, z_Group, z_If, z_It, z_List, z_Meth, z_NewK, z_NewT, z_Next, z_Nm, z_NoP, z_Not, z_Op, z_Or, z_OrV, z_P, z_Par, z_Pass, z_Pk, z_Read, z_Ret, z_RetN, z_Rg1, z_Rg2, z_SIf, z_Seq, z_Sl, z_Sub, z_TB, z_Take, z_Tru, z_Tu, z_Tup, z_Turn, z_Un, z_Var, z_abs, z_agK, z_andF, z_andT, z_andVF, z_andVT, z_apI, z_apO, z_app1, z_app2, z_appA, z_ar1, z_ar2, z_arK, z_arK2, z_argP, z_argS, z_argV, z_args, z_args0, z_asK, z_asK2, z_atI, z_atK, z_atO, z_atV, z_augE, z_augF, z_binK, z_binK2, z_bvK, z_callE, z_cbK, z_chK, z_chK2, z_chain2, z_chnF, z_chnT, z_clB, z_clK, z_coK, z_dgK, z_dgK2, z_dget, z_diK, z_diK2, z_din, z_dispL, z_dispT, z_dvget, z_exK, z_exc, z_go, z_go0, z_goK, z_gotD, z_gotIn, z_grK, z_ifF, z_ifT, z_ifVF, z_ifVT, z_int, z_intB, z_io0, z_ioP, z_ioS, z_ioV, z_isL, z_isO, z_itE, z_itL, z_itS, z_itT, z_kpO, z_kpV, z_lenL, z_lenT, z_liK, z_lisL, z_lisT, z_lkK, z_look0, z_look1, z_lookD, z_lookDK, z_lookP, z_lookV, z_mCall, z_meB, z_meI, z_meK, z_meO, z_meR, z_no, z_notK, z_npK, z_npO, z_npS, z_npV, z_ok, z_one0, z_oneP, z_oneS, z_oneV, z_opO, z_opP, z_opS, z_opV, z_orF, z_orT, z_orVF, z_orVT, z_pI, z_paB, z_paK, z_paK2, z_pkK, z_puB, z_puK, z_putI, z_putM, z_putO, z_putV, z_r1K, z_r2K, z_r2K2, z_rdB, z_rdK, z_rdK2, z_rdM, z_reK, z_ret, z_retI, z_retN, z_rg1, z_rg2, z_rgI1, z_rgI2, z_rtV, z_saI, z_saO, z_seqB, z_seqC, z_seqN, z_seqR, z_sl, z_slK, z_slK2, z_slK3, z_slice, z_suB, z_suK, z_tK, z_tO, z_tV, z_tbK, z_tnK, z_truB, z_truI, z_truK, z_truL, z_truN, z_truT, z_tst, z_tuK, z_tupL, z_tupT, z_unK, z_vO, z_vS, z_vV, z_vals, z_vals0, z_wpB, z_wpO, z_yes, List.set_cons_zero, List.set_cons_succ, List.getElem?_cons_zero, List.getElem?_cons_succ, List.length_cons, List.length_nil, Bool.not_true, Bool.not_false, if_true, if_false, Bool.false_eq_true, reduceCtorEq, and_self, and_true, true_and, y_addI, y_sub, y_lt, y_gt, y_le, y_ge, y_neg, y_eqI, y_neI, Nat.reduceAdd, Nat.reduceLT, Nat.reduceLeDiff, decide_eq_true_eq, sz, Nat.zero_le, dn_len, List.isEmpty_cons, List.isEmpty_nil, List.cons_append, List.nil_append, List.all_cons, List.all_nil, Bool.and_true, Bool.true_and, Bool.and_self, it, it2, decide_eq_true c1, hc, all_map, ha]
            exact ⟨rfl, rfl⟩
          · refine body_P rfl rfl ?_
            show WP (ms_20 [.val (.tuple xs), .val (.int (n : Int)), .no]) _
            simp only [ms_20, z_And, z_AndV, z_Args, z_Args0, z_Asg, z_BV, z_Bin, z_Break, z_C, z_CallB, z_Chain, z_Comp, z_Cont, z_DGet, z_DIn, z_DPut, z_Enum, z_Expr, z_For, z_Group, z_If, z_It, z_List, z_Meth, z_NewK, z_NewT, z_Next, z_Nm, z_NoP, z_Not, z_Op, z_Or, z_OrV, z_P, z_Par, z_Pass, z_Pk, z_Read, z_Ret, z_RetN, z_Rg1, z_Rg2, z_SIf, z_Seq, z_Sl, z_Sub, z_TB, z_Take, z_Tru, z_Tu, z_Tup, z_Turn, z_Un, z_Var, z_abs, z_agK, z_andF, z_andT, z_andVF, z_andVT, z_apI, z_apO, z_app1, z_app2, z_appA, z_ar1, z_ar2, z_arK, z_arK2, z_argP, z_argS, z_argV, z_args, z_args0, z_asK, z_asK2, z_atI, z_atK, z_atO, z_atV, z_augE, z_augF, z_binK, z_binK2, z_bvK, z_callE, z_cbK, z_chK, z_chK2, z_chain2, z_chnF, z_chnT, z_clB, z_clK, z_coK, z_dgK, z_dgK2, z_dget, z_diK, z_diK2, z_din, z_dispL, z_dispT, z_dvget, z_exK, z_exc, z_go, z_go0, z_goK, z_gotD, z_gotIn, z_grK, z_ifF, z_ifT, z_ifVF, z_ifVT, z_int, z_intB, z_io0, z_ioP, z_ioS, z_ioV, z_isL, z_isO, z_itE, z_itL, z_itS, z_itT, z_kpO, z_kpV, z_lenL, z_lenT, z_liK, z_lisL, z_lisT, z_lkK, z_look0, z_look1, z_lookD, z_lookDK, z_lookP, z_lookV, z_mCall, z_meB, z_meI, z_meK, z_meO, z_meR, z_no, z_notK, z_npK, z_npO, z_npS, z_npV, z_ok, z_one0, z_oneP, z_oneS, z_oneV, z_opO, z_opP, z_opS, z_opV, z_orF, z_orT, z_orVF, z_orVT, z_pI, z_paB, z_paK, z_paK2, z_pkK, z_puB, z_puK, z_putI, z_putM, z_putO, z_putV, z_r1K, z_r2K, z_r2K2, z_rdB, z_rdK, z_rdK2, z_rdM, z_reK, z_ret, z_retI, z_retN, z_rg1, z_rg2, z_rgI1, z_rgI2, z_rtV, z_saI, z_saO, z_seqB, z_seqC, z_seqN, z_seqR, z_sl, z_slK, z_slK2, z_slK3, z_slice, z_suB, z_suK, z_tK, z_tO, z_tV, z_tbK, z_tnK, z_truB, z_truI, z_truK, z_truL, z_truN, z_truT, z_tst, z_tuK, z_tupL, z_tupT, z_unK, z_vO, z_vS, z_vV, z_vals, z_vals0, z_wpB, z_wpO, z_yes, List.set_cons_zero, List.set_cons_succ, List.getElem?_cons_zero, List.getElem?_cons_succ, List.length_cons, List.length_nil, Bool.not_true, Bool.not_false, if_true, if_false, Bool.false_eq_true, reduceCtorEq, and_self, and_true, true_and, y_addI, y_sub, y_lt, y_gt, y_le, y_ge, y_neg, y_eqI, y_neI, Nat.reduceAdd, Nat.reduceLT, Nat.reduceLeDiff, decide_eq_true_eq, sz, Nat.zero_le, dn_len, List.isEmpty_cons, List.isEmpty_nil, List.cons_append, List.nil_append, List.all_cons, List.all_nil, Bool.and_true, Bool.true_and, Bool.and_self, it, it2, decide_eq_true c1, hc, all_map, ha]
            exact ⟨rfl, rfl⟩
      · have c1 : ¬ ((xs.length : Nat) : Int) = (n : Int) := by omega
        have e : tabB n (.tuple xs) = false := by
          show (decide (xs.length = n) && tabI n (intsOf xs)) = _
          rw [decide_eq_false hl, Bool.false_and]
        rw [e] at fin ⊢
        refine fin ?_ ?_
        · refine body_P rfl rfl ?_
          show WP (ms_6 [.val (.tuple xs), .val (.int (n : Int)), .no]) _
          simp only [ms_6, z_And, z_AndV, z_Args, z_Args0, z_Asg, z_BV, z_Bin, z_Break, z_C, z_CallB, z_Chain, z_Comp, z_Cont, z_DGet, z_DIn, z_DPut, z_Enum, z_Expr, z_For, z_Group, z_If, z_It, z_List, z_Meth, z_NewK, z_NewT, z_Next, z_Nm, z_NoP, z_Not, z_Op, z_Or, z_OrV, z_P, z_Par, z_Pass, z_Pk, z_Read, z_Ret, z_RetN, z_Rg1, z_Rg2, z_SIf, z_Seq, z_Sl, z_Sub, z_TB, z_Take, z_Tru, z_Tu, z_Tup, z_Turn, z_Un, z_Var, z_abs, z_agK, z_andF, z_andT, z_andVF, z_andVT, z_apI, z_apO, z_app1, z_app2, z_appA, z_ar1, z_ar2, z_arK, z_arK2, z_argP, z_argS, z_argV, z_args, z_args0, z_asK, z_asK2, z_atI, z_atK, z_atO, z_atV, z_augE, z_augF, z_binK, z_binK2, z_bvK, z_callE, z_cbK, z_chK, z_chK2, z_chain2, z_chnF, z_chnT, z_clB, z_clK, z_coK, z_dgK, z_dgK2, z_dget, z_diK, z_diK2, z_din, z_dispL, z_dispT, z_dvget, z_exK, z_exc, z_go, z_go0, z_goK, z_gotD, z_gotIn, z_grK, z_ifF, z_ifT, z_ifVF, z_ifVT, z_int, z_intB, z_io0, z_ioP, z_ioS, z_ioV, z_isL, z_isO, z_itE, z_itL, z_itS, z_itT, z_kpO, z_kpV, z_lenL, z_lenT, z_liK, z_lisL, z_lisT, z_lkK, z_look0, z_look1, z_lookD, z_lookDK, z_lookP, z_lookV, z_mCall, z_meB, z_meI, z_meK, z_meO, z_meR, z_no, z_notK, z_npK, z_npO, z_npS, z_npV, z_ok, z_one0, z_oneP, z_oneS, z_oneV, z_opO, z_opP, z_opS, z_opV, z_orF, z_orT, z_orVF, z_orVT, z_pI, z_paB, z_paK, z_paK2, z_pkK, z_puB, z_puK, z_putI, z_putM, z_putO, z_putV, z_r1K, z_r2K, z_r2K2, z_rdB, z_rdK, z_rdK2, z_rdM, z_reK, z_ret, z_retI, z_retN, z_rg1, z_rg2, z_rgI1, z_rgI2, z_rtV, z_saI, z_saO, z_seqB, z_seqC, z_seqN, z_seqR, z_sl, z_slK, z_slK2, z_slK3, z_slice, z_suB, z_suK, z_tK, z_tO, z_tV, z_tbK, z_tnK, z_truB, z_truI, z_truK, z_truL, z_truN, z_truT, z_tst, z_tuK, z_tupL, z_tupT, z_unK, z_vO, z_vS, z_vV, z_vals, z_vals0, z_wpB, z_wpO, z_yes, List.set_cons_zero, List.set_cons_succ, List.getElem?_cons_zero, List.getElem?_cons_succ, List.length_cons, List.length_nil, Bool.not_true, Bool.not_false, if_true, if_false, Bool.false_eq_true, reduceCtorEq, and_self, and_true, true_and, y_addI, y_sub, y_lt, y_gt, y_le, y_ge, y_neg, y_eqI, y_neI, Nat.reduceAdd, Nat.reduceLT, Nat.reduceLeDiff, decide_eq_true_eq, sz, Nat.zero_le, dn_len, List.isEmpty_cons, List.isEmpty_nil, List.cons_append, List.nil_append, List.all_cons, List.all_nil, Bool.and_true, Bool.true_and, Bool.and_self, it, it2, decide_eq_false c1]
          exact ⟨rfl, rfl⟩
        · refine body_P rfl rfl ?_
          show WP (ms_20 [.val (.tuple xs), .val (.int (n : Int)), .no]) _
          simp only [ms_20, z_And, z_AndV, z_Args, z_Args0, z_Asg, z_BV, z_Bin, z_Break, z_C, z_CallB, z_Chain, z_Comp, z_Cont, z_DGet, z_DIn, z_DPut, z_Enum, z_Expr, z_For, z_Group, z_If, z_It, z_List, z_Meth, z_NewK, z_NewT, z_Next, z_Nm, z_NoP, z_Not, z_Op, z_Or, z_OrV, z_P, z_Par, z_Pass, z_Pk, z_Read, z_Ret, z_RetN, z_Rg1, z_Rg2, z_SIf, z_Seq, z_Sl, z_Sub, z_TB, z_Take, z_Tru, z_Tu, z_Tup, z_Turn, z_Un, z_Var, z_abs, z_agK, z_andF, z_andT, z_andVF, z_andVT, z_apI, z_apO, z_app1, z_app2, z_appA, z_ar1, z_ar2, z_arK, z_arK2, z_argP, z_argS, z_argV, z_args, z_args0, z_asK, z_asK2, z_atI, z_atK, z_atO, z_atV, z_augE, z_augF, z_binK, z_binK2, z_bvK, z_callE, z_cbK, z_chK, z_chK2, z_chain2, z_chnF, z_chnT, z_clB, z_clK, z_coK, z_dgK, z_dgK2, z_dget, z_diK, z_diK2, z_din, z_dispL, z_dispT, z_dvget, z_exK, z_exc, z_go, z_go0, z_goK, z_gotD, z_gotIn, z_grK, z_ifF, z_ifT, z_ifVF, z_ifVT, z_int, z_intB, z_io0, z_ioP, z_ioS, z_ioV, z_isL, z_isO, z_itE, z_itL, z_itS, z_itT, z_kpO, z_kpV, z_lenL, z_lenT, z_liK, z_lisL, z_lisT, z_lkK, z_look0, z_look1, z_lookD, z_lookDK, z_lookP, z_lookV, z_mCall, z_meB, z_meI, z_meK, z_meO, z_meR, z_no, z_notK, z_npK, z_npO, z_npS, z_npV, z_ok, z_one0, z_oneP, z_oneS, z_oneV, z_opO, z_opP, z_opS, z_opV, z_orF, z_orT, z_orVF, z_orVT, z_pI, z_paB, z_paK, z_paK2, z_pkK, z_puB, z_puK, z_putI, z_putM, z_putO, z_putV, z_r1K, z_r2K, z_r2K2, z_rdB, z_rdK, z_rdK2, z_rdM, z_reK, z_ret, z_retI, z_retN, z_rg1, z_rg2, z_rgI1, z_rgI2, z_rtV, z_saI, z_saO, z_seqB, z_seqC, z_seqN, z_seqR, z_sl, z_slK, z_slK2, z_slK3, z_slice, z_suB, z_suK, z_tK, z_tO, z_tV, z_tbK, z_tnK, z_truB, z_truI, z_truK, z_truL, z_truN, z_truT, z_tst, z_tuK, z_tupL, z_tupT, z_unK, z_vO, z_vS, z_vV, z_vals, z_vals0, z_wpB, z_wpO, z_yes, List.set_cons_zero, List.set_cons_succ, List.getElem?_cons_zero, List.getElem?_cons_succ, List.length_cons, List.length_nil, Bool.not_true, Bool.not_false, if_true, if_false, Bool.false_eq_true, reduceCtorEq, and_self, and_true, true_and, y_addI, y_sub, y_lt, y_gt, y_le, y_ge, y_neg, y_eqI, y_neI, Nat.reduceAdd, Nat.reduceLT, Nat.reduceLeDiff, decide_eq_true_eq, sz, Nat.zero_le, dn_len, List.isEmpty_cons, List.isEmpty_nil, List.cons_append, List.nil_append, List.all_cons, List.all_nil, Bool.and_true, Bool.true_and, Bool.and_self, it, it2, decide_eq_false c1]
          exact ⟨rfl, rfl⟩
    | _ => cases ht
  · have it2 : isTup d = false := by cases h : isTup d with
      | true => exact absurd h ht
      | false => rfl
    have nd : notD d = true := by cases d <;> first | rfl | cases hd
    have it := isi_nd (g := isTup) (d := d) nd
    have e : tabB n d = false := by cases d <;> first | rfl | cases it2
    rw [e] at fin ⊢
    refine fin ?_ ?_
    · refine body_P rfl rfl ?_
      show WP (ms_6 [.val d, .val (.int (n : Int)), .no]) _
      simp only [ms_6, z_And, z_AndV, z_Args, z_Args0, z_Asg, z_BV, z_Bin, z_Break, z_C, z_CallB, z_Chain, z_Comp, z_Cont, z_DGet, z_DIn, z_DPut, z_Enum, z_Expr, z_For, z_Group, z_If, z_It, z_List, z_Meth, z_NewK, z_NewT, z_Next, z_Nm, z_NoP, z_Not, z_Op, z_Or, z_OrV, z_P, z_Par, z_Pass, z_Pk, z_Read, z_Ret, z_RetN, z_Rg1, z_Rg2, z_SIf, z_Seq, z_Sl, z_Sub, z_TB, z_Take, z_Tru, z_Tu, z_Tup, z_Turn, z_Un, z_Var, z_abs, z_agK, z_andF, z_andT, z_andVF, z_andVT, z_apI, z_apO, z_app1, z_app2, z_appA, z_ar1, z_ar2, z_arK, z_arK2, z_argP, z_argS, z_argV, z_args, z_args0, z_asK, z_asK2, z_atI, z_atK, z_atO, z_atV, z_augE, z_augF, z_binK, z_binK2, z_bvK, z_callE, z_cbK, z_chK, z_chK2, z_chain2, z_chnF, z_chnT, z_clB, z_clK, z_coK, z_dgK, z_dgK2, z_dget, z_diK, z_diK2, z_din, z_dispL, z_dispT, z_dvget, z_exK, z_exc, z_go, z_go0, z_goK, z_gotD, z_gotIn, z_grK, z_ifF, z_ifT, z_ifVF, z_ifVT, z_int, z_intB, z_io0, z_ioP, z_ioS, z_ioV, z_isL, z_isO, z_itE, z_itL, z_itS, z_itT, z_kpO, z_kpV, z_lenL, z_lenT, z_liK, z_lisL, z_lisT, z_lkK, z_look0, z_look1, z_lookD, z_lookDK, z_lookP, z_lookV, z_mCall, z_meB, z_meI, z_meK, z_meO, z_meR, z_no, z_notK, z_npK, z_npO, z_npS, z_npV, z_ok, z_one0, z_oneP, z_oneS, z_oneV, z_opO, z_opP, z_opS, z_opV, z_orF, z_orT, z_orVF, z_orVT, z_pI, z_paB, z_paK, z_paK2, z_pkK, z_puB, z_puK, z_putI, z_putM, z_putO, z_putV, z_r1K, z_r2K, z_r2K2, z_rdB, z_rdK, z_rdK2, z_rdM, z_reK, z_ret, z_retI, z_retN, z_rg1, z_rg2, z_rgI1, z_rgI2, z_rtV, z_saI, z_saO, z_seqB, z_seqC, z_seqN, z_seqR, z_sl, z_slK, z_slK2, z_slK3, z_slice, z_suB, z_suK, z_tK, z_tO, z_tV, z_tbK, z_tnK, z_truB, z_truI, z_truK, z_truL, z_truN, z_truT, z_tst, z_tuK, z_tupL, z_tupT, z_unK, z_vO, z_vS, z_vV, z_vals, z_vals0, z_wpB, z_wpO, z_yes, List.set_cons_zero, List.set_cons_succ, List.getElem?_cons_zero, List.getElem?_cons_succ, List.length_cons, List.length_nil, Bool.not_true, Bool.not_false, if_true, if_false, Bool.false_eq_true, reduceCtorEq, and_self, and_true, true_and, y_addI, y_sub, y_lt, y_gt, y_le, y_ge, y_neg, y_eqI, y_neI, Nat.reduceAdd, Nat.reduceLT, Nat.reduceLeDiff, decide_eq_true_eq, sz, Nat.zero_le, dn_len, List.isEmpty_cons, List.isEmpty_nil, List.cons_append, List.nil_append, List.all_cons, List.all_nil, Bool.and_true, Bool.true_and, Bool.and_self, it, it2]
      exact ⟨rfl, rfl⟩
    · refine body_P rfl rfl ?_
      show WP (ms_20 [.val d, .val (.int (n : Int)), .no]) _
      simp only [ms_20, z_And, z_AndV, z_Args, z_Args0, z_Asg, z_BV, z_Bin, z_Break, z_C, z_CallB, z_Chain, z_Comp, z_Cont, z_DGet, z_DIn, z_DPut, z_Enum, z_Expr, z_For, z_Group, z_If, z_It, z_List, z_Meth, z_NewK, z_NewT, z_Next, z_Nm, z_NoP, z_Not, z_Op, z_Or, z_OrV, z_P, z_Par, z_Pass, z_Pk, z_Read, z_Ret, z_RetN, z_Rg1, z_Rg2, z_SIf, z_Seq, z_Sl, z_Sub, z_TB, z_Take, z_Tru, z_Tu, z_Tup, z_Turn, z_Un, z_Var, z_abs, z_agK, z_andF, z_andT, z_andVF, z_andVT, z_apI, z_apO, z_app1, z_app2, z_appA, z_ar1, z_ar2, z_arK, z_arK2, z_argP, z_argS, z_argV, z_args, z_args0, z_asK, z_asK2, z_atI, z_atK, z_atO, z_atV, z_augE, z_augF, z_binK, z_binK2, z_bvK, z_callE, z_cbK, z_chK, z_chK2, z_chain2, z_chnF, z_chnT, z_clB, z_clK, z_coK, z_dgK, z_dgK2, z_dget, z_diK, z_diK2, z_din, z_dispL, z_dispT, z_dvget, z_exK, z_exc, z_go, z_go0, z_goK, z_gotD, z_gotIn, z_grK, z_ifF, z_ifT, z_ifVF, z_ifVT, z_int, z_intB, z_io0, z_ioP, z_ioS, z_ioV, z_isL, z_isO, z_itE, z_itL, z_itS, z_itT, z_kpO, z_kpV, z_lenL, z_lenT, z_liK, z_lisL, z_lisT, z_lkK, z_look0, z_look1, z_lookD, z_lookDK, z_lookP, z_lookV, z_mCall, z_meB, z_meI, z_meK, z_meO, z_meR, z_no, z_notK, z_npK, z_npO, z_npS, z_npV, z_ok, z_one0, z_oneP, z_oneS, z_oneV, z_opO, z_opP, z_opS, z_opV, z_orF, z_orT, z_orVF, z_orVT, z_pI, z_paB, z_paK, z_paK2, z_pkK, z_puB, z_puK, z_putI, z_putM, z_putO, z_putV, z_r1K, z_r2K, z_r2K2, z_rdB, z_rdK, z_rdK2, z_rdM, z_reK, z_ret, z_retI, z_retN, z_rg1, z_rg2, z_rgI1, z_rgI2, z_rtV, z_saI, z_saO, z_seqB, z_seqC, z_seqN, z_seqR, z_sl, z_slK, z_slK2, z_slK3, z_slice, z_suB, z_suK, z_tK, z_tO, z_tV, z_tbK, z_tnK, z_truB, z_truI, z_truK, z_truL, z_truN, z_truT, z_tst, z_tuK, z_tupL, z_tupT, z_unK, z_vO, z_vS, z_vV, z_vals, z_vals0, z_wpB, z_wpO, z_yes, List.set_cons_zero, List.set_cons_succ, List.getElem?_cons_zero, List.getElem?_cons_succ, List.length_cons, List.length_nil, Bool.not_true, Bool.not_false, if_true, if_false, Bool.false_eq_true, reduceCtorEq, and_self, and_true, true_and, y_addI, y_sub, y_lt, y_gt, y_le, y_ge, y_neg, y_eqI, y_neI, Nat.reduceAdd, Nat.reduceLT, Nat.reduceLeDiff, decide_eq_true_eq, sz, Nat.zero_le, dn_len, List.isEmpty_cons, List.isEmpty_nil, List.cons_append, List.nil_append, List.all_cons, List.all_nil, Bool.and_true, Bool.true_and, Bool.and_self, it, it2]
      exact ⟨rfl, rfl⟩
theorem tab_perm {d : Da} {n : Nat} (h : tabB n d = true) : ∃ A, d = .tuple (dn A) ∧ Perm0 A n := by
  cases d with
  | tuple xs =>
    have h : (decide (xs.length = n) && tabI n (intsOf xs)) = true := h
    rw [Bool.and_eq_true] at h
    cases hi : intsOf xs with
    | none => rw [hi] at h; cases h.2
    | some ns =>
      rw [hi] at h
      have e := of_decide_eq_true (p := isort ns = (List.range n).map fun (x : Nat) => (x : Int)) h.2
      have pm : ((List.range n).map fun (x : Nat) => (x : Int)).Perm ns := e ▸ isort_perm ns
      have en : ns = (ns.map Int.toNat).map fun (x : Nat) => (x : Int) := by
        rw [List.map_map]
        refine (List.map_id' ns).symm.trans ?_ |>.trans rfl
        refine List.map_congr_left fun z hz => ?_
        obtain ⟨x, _, rfl⟩ := List.mem_map.mp (pm.mem_iff.mpr hz)
        rfl
      refine ⟨ns.map Int.toNat, ?_, ?_⟩
      · rw [← di_dn, ← en, intsOf_eq hi]
        rfl
      · have := (pm.symm.map Int.toNat)
        rw [List.map_map] at this
        have e2 : (List.range n).map (Int.toNat ∘ fun (x : Nat) => (x : Int)) = List.range n := by
          refine (List.map_congr_left (g := id) fun x _ => ?_).trans (List.map_id _)
          exact Int.toNat_natCast x
        rw [e2] at this
        exact this
  | _ => cases h
theorem perm_tab {A : List Nat} {n : Nat} (h : Perm0 A n) : tabB n (.tuple (dn A)) = true := by
  have hi : intsOf (dn A) = some (A.map fun (x : Nat) => (x : Int)) := by
    rw [← di_dn]
    exact intsOf_map _
  show (decide ((dn A).length = n) && tabI n (intsOf (dn A))) = true
  rw [hi, dn_len, decide_eq_true h.len, Bool.true_and]
  refine decide_eq_true ?_
  refine (isort_one ((List.Perm.map _ h).symm) ?_).symm
  refine List.pairwise_map.mpr ?_
  exact List.pairwise_le_range.imp fun {a b} h => by omega
end VP
namespace VP
open PySem VL L2
def flat2 : Da → Bool
  | .dict _ => false
  | .tuple xs => xs.all flat1 && decide (xs.length ≤ 1000)
  | _ => true
def nats (xs : List Da) : List Nat := xs.map fun d => match d with
  | .int i => i.toNat
  | _ => 0
theorem nats_dn {p : List Nat} : nats (dn p) = p := by
  unfold nats dn
  rw [List.map_map]
  refine (List.map_congr_left (g := id) fun x _ => ?_).trans (List.map_id _)
  exact Int.toNat_natCast x
def invB (n : Nat) : Da → Bool
  | .tuple xs => decide (bh (nats xs) (nats xs) = List.range n)
  | _ => false
theorem tab_comp {row : Da} {p : List Nat} {n : Nat} {xs : List Da} (er : row = .tuple (dn p)) (hp : Perm0 p n) (hn : n ≤ 1000) (h : xs.all flat1 = true) (hl : xs.length ≤ 1000) :
    compL (.one 5) yesT (mCall fn_6 (mArgs [(mVar 5), (mCallB (ar1 fLen) (mArgs [(mPk 0)]))])) [5] xs [] [.val row, .val (.tuple xs), .no, .no, .no, .no] = .ok (.own (xs.map fun d => PyData.bool (tabB n d))) [.val row, .val (.tuple xs), .no, .no, .no, .no] ∧
    compL (.one 3) yesT (mCall fn_20 (mArgs [(mVar 3), (mCallB (ar1 fLen) (mArgs [(mPk 0)]))])) [3] xs [] [.val row, .val (.tuple xs), .no, .no] = .ok (.own (xs.map fun d => PyData.bool (tabB n d))) [.val row, .val (.tuple xs), .no, .no] := by
  have hpl := hp.len
  subst er
  constructor
  · have hc := comp_all (ct := .one 5) (t := yesT) (m := mCall fn_6 (mArgs [(mVar 5), (mCallB (ar1 fLen) (mArgs [(mPk 0)]))])) (vs := [5]) (env := [.val (.tuple (dn p)), .val (.tuple xs), .no, .no, .no, .no]) rfl (fun d => PyData.bool (tabB n d)) xs [] (by rw [List.length_nil, sz]; omega) fun d hd => by
      have t := (table_ok (n := n) (List.all_eq_true.mp h d hd) hn).1
      refine ⟨[.val (.tuple (dn p)), .val (.tuple xs), .no, .no, .no, .val d], [.val (.tuple (dn p)), .val (.tuple xs), .no, .no, .no, .val d], [.val (.tuple (dn p)), .val (.tuple xs), .no, .no, .no, .val d], rfl, rfl, ?_, rfl⟩
      simp only [z_And, z_AndV, z_Args, z_Args0, z_Asg, z_BV, z_Bin, z_Break, z_C, z_CallB, z_Chain, z_Comp, z_Cont, z_DGet, z_DIn, z_DPut, z_Enum, z_Expr, z_For, z_Group, z_If, z_It, z_List, z_Meth, z_NewK, z_NewT, z_Next, z_Nm, z_NoP, z_Not, z_Op, z_Or, z_OrV, z_P, z_Par, z_Pass, z_Pk, z_Read, z_Ret, z_RetN, z_Rg1, z_Rg2, z_SIf, z_Seq, z_Sl, z_Sub, z_TB, z_Take, z_Tru, z_Tu, z_Tup, z_Turn, z_Un, z_Var, z_abs, z_agK, z_andF, z_andT, z_andVF, z_andVT, z_apI, z_apO, z_app1, z_app2, z_appA, z_ar1, z_ar2, z_arK, z_arK2, z_argP, z_argS, z_argV, z_args, z_args0, z_asK, z_asK2, z_atI, z_atK, z_atO, z_atV, z_augE, z_augF, z_binK, z_binK2, z_bvK, z_callE, z_cbK, z_chK, z_chK2, z_chain2, z_chnF, z_chnT, z_clB, z_clK, z_coK, z_dgK, z_dgK2, z_dget, z_diK, z_diK2, z_din, z_dispL, z_dispT, z_dvget, z_exK, z_exc, z_go, z_go0, z_goK, z_gotD, z_gotIn, z_grK, z_ifF, z_ifT, z_ifVF, z_ifVT, z_int, z_intB, z_io0, z_ioP, z_ioS, z_ioV, z_isL, z_isO, z_itE, z_itL, z_itS, z_itT, z_kpO, z_kpV, z_lenL, z_lenT, z_liK, z_lisL, z_lisT, z_lkK, z_look0, z_look1, z_lookD, z_lookDK, z_lookP, z_lookV, z_mCall, z_meB, z_meI, z_meK, z_meO, z_meR, z_no, z_notK, z_npK, z_npO, z_npS, z_npV, z_ok, z_one0, z_oneP, z_oneS, z_oneV, z_opO, z_opP, z_opS, z_opV, z_orF, z_orT, z_orVF, z_orVT, z_pI, z_paB, z_paK, z_paK2, z_pkK, z_puB, z_puK, z_putI, z_putM, z_putO, z_putV, z_r1K, z_r2K, z_r2K2, z_rdB, z_rdK, z_rdK2, z_rdM, z_reK, z_ret, z_retI, z_retN, z_rg1, z_rg2, z_rgI1, z_rgI2, z_rtV, z_saI, z_saO, z_seqB, z_seqC, z_seqN, z_seqR, z_sl, z_slK, z_slK2, z_slK3, z_slice, z_suB, z_suK, z_tK, z_tO, z_tV, z_tbK, z_tnK, z_truB, z_truI, z_truK, z_truL, z_truN, z_truT, z_tst, z_tuK, z_tupL, z_tupT, z_unK, z_vO, z_vS, z_vV, z_vals, z_vals0, z_wpB, z_wpO, z_yes, List.set_cons_zero, List.set_cons_succ, List.getElem?_cons_zero, List.getElem?_cons_succ, List.length_cons, List.length_nil, Bool.not_true, Bool.not_false, if_true, if_false, Bool.false_eq_true, reduceCtorEq, and_self, and_true, true_and, y_addI, y_sub, y_lt, y_gt, y_le, y_ge, y_neg, y_eqI, y_neI, Nat.reduceAdd, Nat.reduceLT, Nat.reduceLeDiff, decide_eq_true_eq, sz, Nat.zero_le, dn_len, List.isEmpty_cons, List.isEmpty_nil, List.cons_append, List.nil_append, List.all_cons, List.all_nil, Bool.and_true, Bool.true_and, Bool.and_self, hpl, t]
    rw [List.nil_append] at hc
    exact hc
  · have hc := comp_all (ct := .one 3) (t := yesT) (m := mCall fn_20 (mArgs [(mVar 3), (mCallB (ar1 fLen) (mArgs [(mPk 0)]))])) (vs := [3]) (env := [.val (.tuple (dn p)), .val (.tuple xs), .no, .no]) rfl (fun d => PyData.bool (tabB n d)) xs [] (by rw [List.length_nil, sz]; omega) fun d hd => by
      have t := (table_ok (n := n) (List.all_eq_true.mp h d hd) hn).2
      refine ⟨[.val (.tuple (dn p)), .val (.tuple xs), .no, .val d], [.val (.tuple (dn p)), .val (.tuple xs), .no, .val d], [.val (.tuple (dn p)), .val (.tuple xs), .no, .val d], rfl, rfl, ?_, rfl⟩
      simp only [z_And, z_AndV, z_Args, z_Args0, z_Asg, z_BV, z_Bin, z_Break, z_C, z_CallB, z_Chain, z_Comp, z_Cont, z_DGet, z_DIn, z_DPut, z_Enum, z_Expr, z_For, z_Group, z_If, z_It, z_List, z_Meth, z_NewK, z_NewT, z_Next, z_Nm, z_NoP, z_Not, z_Op, z_Or, z_OrV, z_P, z_Par, z_Pass, z_Pk, z_Read, z_Ret, z_RetN, z_Rg1, z_Rg2, z_SIf, z_Seq, z_Sl, z_Sub, z_TB, z_Take, z_Tru, z_Tu, z_Tup, z_Turn, z_Un, z_Var, z_abs, z_agK, z_andF, z_andT, z_andVF, z_andVT, z_apI, z_apO, z_app1, z_app2, z_appA, z_ar1, z_ar2, z_arK, z_arK2, z_argP, z_argS, z_argV, z_args, z_args0, z_asK, z_asK2, z_atI, z_atK, z_atO, z_atV, z_augE, z_augF, z_binK, z_binK2, z_bvK, z_callE, z_cbK, z_chK, z_chK2, z_chain2, z_chnF, z_chnT, z_clB, z_clK, z_coK, z_dgK, z_dgK2, z_dget, z_diK, z_diK2, z_din, z_dispL, z_dispT, z_dvget, z_exK, z_exc, z_go, z_go0, z_goK, z_gotD, z_gotIn, z_grK, z_ifF, z_ifT, z_ifVF, z_ifVT, z_int, z_intB, z_io0, z_ioP, z_ioS, z_ioV, z_isL, z_isO, z_itE, z_itL, z_itS, z_itT, z_kpO, z_kpV, z_lenL, z_lenT, z_liK, z_lisL, z_lisT, z_lkK, z_look0, z_look1, z_lookD, z_lookDK, z_lookP, z_lookV, z_mCall, z_meB, z_meI, z_meK, z_meO, z_meR, z_no, z_notK, z_npK, z_npO, z_npS, z_npV, z_ok, z_one0, z_oneP, z_oneS, z_oneV, z_opO, z_opP, z_opS, z_opV, z_orF, z_orT, z_orVF, z_orVT, z_pI, z_paB, z_paK, z_paK2, z_pkK, z_puB, z_puK, z_putI, z_putM, z_putO, z_putV, z_r1K, z_r2K, z_r2K2, z_rdB, z_rdK, z_rdK2, z_rdM, z_reK, z_ret, z_retI, z_retN, z_rg1, z_rg2, z_rgI1, z_rgI2, z_rtV, z_saI, z_saO, z_seqB, z_seqC, z_seqN, z_seqR, z_sl, z_slK, z_slK2, z_slK3, z_slice, z_suB, z_suK, z_tK, z_tO, z_tV, z_tbK, z_tnK, z_truB, z_truI, z_truK, z_truL, z_truN, z_truT, z_tst, z_tuK, z_tupL, z_tupT, z_unK, z_vO, z_vS, z_vV, z_vals, z_vals0, z_wpB, z_wpO, z_yes, List.set_cons_zero, List.set_cons_succ, List.getElem?_cons_zero, List.getElem?_cons_succ, List.length_cons, List.length_nil, Bool.not_true, Bool.not_false, if_true, if_false, Bool.false_eq_true, reduceCtorEq, and_self, and_true, true_and, y_addI, y_sub, y_lt, y_gt, y_le, y_ge, y_neg, y_eqI, y_neI, Nat.reduceAdd, Nat.reduceLT, Nat.reduceLeDiff, decide_eq_true_eq, sz, Nat.zero_le, dn_len, List.isEmpty_cons, List.isEmpty_nil, List.cons_append, List.nil_append, List.all_cons, List.all_nil, Bool.and_true, Bool.true_and, Bool.and_self, hpl, t]
    rw [List.nil_append] at hc
    exact hc
theorem inv_comp {p A B : List Nat} {n : Nat} {a b : Sl} (hp : Perm0 p n) (hn : n ≤ 1000) (hA : Perm0 A n) (hB : Perm0 B n) (fa : freeS a = true) (fb : freeS b = true) :
    compL (.one 5) yesT (mBin fEq (mCall fn_5 (mArgs [(mVar 5), (mVar 5)])) (mUn (rg1 fRgT) (mCallB (ar1 fLen) (mArgs [(mPk 0)])))) [5] [.tuple (dn A), .tuple (dn B)] [] [.val (.tuple (dn p)), .val (.tuple [.tuple (dn A), .tuple (dn B)]), a, b, .no, .no] =
      .ok (.own [.bool (decide (bh A A = List.range n)), .bool (decide (bh B B = List.range n))]) [.val (.tuple (dn p)), .val (.tuple [.tuple (dn A), .tuple (dn B)]), a, b, .no, .no] := by
  have hpl := hp.len
  have rg := rgT (n := n) (i := (n : Int)) rfl (by omega)
  have one : ∀ C, Perm0 C n → ∃ e1 e2 e3, bindCT (.one 5) (.tuple (dn C)) (wipeE [.val (.tuple (dn p)), .val (.tuple [.tuple (dn A), .tuple (dn B)]), a, b, .no, .no] [5]) = some e1 ∧ yesT e1 = .ok true e2 ∧
      mOp (mBin fEq (mCall fn_5 (mArgs [(mVar 5), (mVar 5)])) (mUn (rg1 fRgT) (mCallB (ar1 fLen) (mArgs [(mPk 0)])))) e2 = .ok (.val (.bool (invB n (.tuple (dn C))))) e3 ∧ restE e3 [.val (.tuple (dn p)), .val (.tuple [.tuple (dn A), .tuple (dn B)]), a, b, .no, .no] [5] = [.val (.tuple (dn p)), .val (.tuple [.tuple (dn A), .tuple (dn B)]), a, b, .no, .no] := fun C hC => by
    have bo := (behind_ok (a := C) (b := C) (n := n) (by rw [hC.len]; omega) fun x hx => by rw [hC.len]; exact hC.mem.mp hx).2
    refine ⟨[.val (.tuple (dn p)), .val (.tuple [.tuple (dn A), .tuple (dn B)]), a, b, .no, .val (.tuple (dn C))], [.val (.tuple (dn p)), .val (.tuple [.tuple (dn A), .tuple (dn B)]), a, b, .no, .val (.tuple (dn C))], [.val (.tuple (dn p)), .val (.tuple [.tuple (dn A), .tuple (dn B)]), a, b, .no, .val (.tuple (dn C))], rfl, rfl, ?_, rfl⟩
    simp only [z_And, z_AndV, z_Args, z_Args0, z_Asg, z_BV, z_Bin, z_Break, z_C, z_CallB, z_Chain, z_Comp, z_Cont, z_DGet, z_DIn, z_DPut, z_Enum, z_Expr, z_For, z_Group, z_If, z_It, z_List, z_Meth, z_NewK, z_NewT, z_Next, z_Nm, z_NoP, z_Not, z_Op, z_Or, z_OrV, z_P, z_Par, z_Pass, z_Pk, z_Read, z_Ret, z_RetN, z_Rg1, z_Rg2, z_SIf, z_Seq, z_Sl, z_Sub, z_TB, z_Take, z_Tru, z_Tu, z_Tup, z_Turn, z_Un, z_Var, z_abs, z_agK, z_andF, z_andT, z_andVF, z_andVT, z_apI, z_apO, z_app1, z_app2, z_appA, z_ar1, z_ar2, z_arK, z_arK2, z_argP, z_argS, z_argV, z_args, z_args0, z_asK, z_asK2, z_atI, z_atK, z_atO, z_atV, z_augE, z_augF, z_binK, z_binK2, z_bvK, z_callE, z_cbK, z_chK, z_chK2, z_chain2, z_chnF, z_chnT, z_clB, z_clK, z_coK, z_dgK, z_dgK2, z_dget, z_diK, z_diK2, z_din, z_dispL, z_dispT, z_dvget, z_exK, z_exc, z_go, z_go0, z_goK, z_gotD, z_gotIn, z_grK, z_ifF, z_ifT, z_ifVF, z_ifVT, z_int, z_intB, z_io0, z_ioP, z_ioS, z_ioV, z_isL, z_isO, z_itE, z_itL, z_itS, z_itT, z_kpO, z_kpV, z_lenL, z_lenT, z_liK, z_lisL, z_lisT, z_lkK, z_look0, z_look1, z_lookD, z_lookDK, z_lookP, z_lookV, z_mCall, z_meB, z_meI, z_meK, z_meO, z_meR, z_no, z_notK, z_npK, z_npO, z_npS, z_npV, z_ok, z_one0, z_oneP, z_oneS, z_oneV, z_opO, z_opP, z_opS, z_opV, z_orF, z_orT, z_orVF, z_orVT, z_pI, z_paB, z_paK, z_paK2, z_pkK, z_puB, z_puK, z_putI, z_putM, z_putO, z_putV, z_r1K, z_r2K, z_r2K2, z_rdB, z_rdK, z_rdK2, z_rdM, z_reK, z_ret, z_retI, z_retN, z_rg1, z_rg2, z_rgI1, z_rgI2, z_rtV, z_saI, z_saO, z_seqB, z_seqC, z_seqN, z_seqR, z_sl, z_slK, z_slK2, z_slK3, z_slice, z_suB, z_suK, z_tK, z_tO, z_tV, z_tbK, z_tnK, z_truB, z_truI, z_truK, z_truL, z_truN, z_truT, z_tst, z_tuK, z_tupL, z_tupT, z_unK, z_vO, z_vS, z_vV, z_vals, z_vals0, z_wpB, z_wpO, z_yes, List.set_cons_zero, List.set_cons_succ, List.getElem?_cons_zero, List.getElem?_cons_succ, List.length_cons, List.length_nil, Bool.not_true, Bool.not_false, if_true, if_false, Bool.false_eq_true, reduceCtorEq, and_self, and_true, true_and, y_addI, y_sub, y_lt, y_gt, y_le, y_ge, y_neg, y_eqI, y_neI, Nat.reduceAdd, Nat.reduceLT, Nat.reduceLeDiff, decide_eq_true_eq, sz, Nat.zero_le, dn_len, List.isEmpty_cons, List.isEmpty_nil, List.cons_append, List.nil_append, List.all_cons, List.all_nil, Bool.and_true, Bool.true_and, Bool.and_self, bo, hpl, rg, eqT]
    show _ = Out.ok (Sl.val (.bool (decide (bh (nats (dn C)) (nats (dn C)) = List.range n)))) _
    rw [nats_dn]
  have hc := comp_all (ct := .one 5) (t := yesT) (m := mBin fEq (mCall fn_5 (mArgs [(mVar 5), (mVar 5)])) (mUn (rg1 fRgT) (mCallB (ar1 fLen) (mArgs [(mPk 0)])))) (vs := [5]) (env := [.val (.tuple (dn p)), .val (.tuple [.tuple (dn A), .tuple (dn B)]), a, b, .no, .no]) rfl (fun d => PyData.bool (invB n d)) [.tuple (dn A), .tuple (dn B)] []
    (by rw [sz]; show 0 + 2 ≤ 16777216; omega) fun d hd => by
      rcases List.mem_cons.mp hd with rfl | hd
      · exact one A hA
      · cases List.mem_singleton.mp hd
        exact one B hB
  rw [hc]
  show Out.ok (Sl.own [.bool (decide (bh (nats (dn A)) (nats (dn A)) = List.range n)), .bool (decide (bh (nats (dn B)) (nats (dn B)) = List.range n))]) _ = _
  rw [nats_dn, nats_dn]
theorem pair_ok {p : List Nat} {n : Nat} {v : Da} (hp : Perm0 p n) (hn : n ≤ 1000) (hv : flat2 v = true) : ∃ b : Bool, fn_8 [.val (.tuple (dn p)), .val v] = .ok (.val (.bool b)) none ∧ fn_23 [.val (.tuple (dn p)), .val v] = .ok (.val (.bool b)) none ∧
    ∀ A B, v = .tuple [.tuple (dn A), .tuple (dn B)] → Told p A B n → b = true := by
  have hpl := hp.len
  have fin : ∀ b : Bool, WF (fn_8 [.val (.tuple (dn p)), .val v]) (fun r io => r = .val (.bool b) ∧ io = none) → WF (fn_23 [.val (.tuple (dn p)), .val v]) (fun r io => r = .val (.bool b) ∧ io = none) → (∀ A B, v = .tuple [.tuple (dn A), .tuple (dn B)] → Told p A B n → b = true) →
      ∃ b : Bool, fn_8 [.val (.tuple (dn p)), .val v] = .ok (.val (.bool b)) none ∧ fn_23 [.val (.tuple (dn p)), .val v] = .ok (.val (.bool b)) none ∧ ∀ A B, v = .tuple [.tuple (dn A), .tuple (dn B)] → Told p A B n → b = true := fun b h1 h2 h3 => by
    obtain ⟨r, io, e1, rfl, rfl⟩ := ok_of_P h1
    obtain ⟨r, io, e2, rfl, rfl⟩ := ok_of_P h2
    exact ⟨b, e1, e2, h3⟩
  have rg := rgT (n := n) (i := (n : Int)) rfl (by omega)
  by_cases ht : isTup v = true
  · cases v with
    | tuple xs =>
      have hf : xs.all flat1 = true ∧ xs.length ≤ 1000 := by
        have h : (xs.all flat1 && decide (xs.length ≤ 1000)) = true := hv
        rw [Bool.and_eq_true] at h
        exact ⟨h.1, of_decide_eq_true h.2⟩
      have it := isi_nd (g := isTup) (d := .tuple xs) rfl
      have it2 : isTup (.tuple xs) = true := rfl
      obtain ⟨c8, c23⟩ := tab_comp (row := .tuple (dn p)) rfl hp hn hf.1 hf.2
      by_cases hl : xs.length = 2
      · have c1 : ((xs.length : Nat) : Int) = 2 := by omega
        cases ha : xs.all (fun d => tabB n d) with
        | false =>
          refine fin false ?_ ?_ fun A B e T => ?_
          · refine body_P rfl rfl ?_
            show WP (ms_8 [.val (.tuple (dn p)), .val (.tuple xs), .no, .no, .no, .no]) _
            simp only [ms_8, z_And, z_AndV, z_Args, z_Args0, z_Asg, z_BV, z_Bin, z_Break, z_C, z_CallB, z_Chain, z_Comp, z_Cont, z_DGet, z_DIn, z_DPut, z_Enum, z_Expr, z_For, z_Group, z_If, z_It, z_List, z_Meth, z_NewK, z_NewT, z_Next, z_Nm, z_NoP, z_Not, z_Op, z_Or, z_OrV, z_P, z_Par, z_Pass, z_Pk, z_Read, z_Ret, z_RetN, z_Rg1, z_Rg2, z_SIf, z_Seq, z_Sl, z_Sub, z_TB, z_Take, z_Tru, z_Tu, z_Tup, z_Turn, z_Un, z_Var, z_abs, z_agK, z_andF, z_andT, z_andVF, z_andVT, z_apI, z_apO, z_app1, z_app2, z_appA, z_ar1, z_ar2, z_arK, z_arK2, z_argP, z_argS, z_argV, z_args, z_args0, z_asK, z_asK2, z_atI, z_atK, z_atO, z_atV, z_augE, z_augF, z_binK, z_binK2, z_bvK, z_callE, z_cbK, z_chK, z_chK2, z_chain2, z_chnF, z_chnT, z_clB, z_clK, z_coK, z_dgK, z_dgK2, z_dget, z_diK, z_diK2, z_din, z_dispL, z_dispT, z_dvget, z_exK, z_exc, z_go, z_go0, z_goK, z_gotD, z_gotIn, z_grK, z_ifF, z_ifT, z_ifVF, z_ifVT, z_int, z_intB, z_io0, z_ioP, z_ioS, z_ioV, z_isL, z_isO, z_itE, z_itL, z_itS, z_itT, z_kpO, z_kpV, z_lenL, z_lenT, z_liK, z_lisL, z_lisT, z_lkK, z_look0, z_look1, z_lookD, z_lookDK, z_lookP, z_lookV, z_mCall, z_meB, z_meI, z_meK, z_meO, z_meR, z_no, z_notK, z_npK, z_npO, z_npS, z_npV, z_ok, z_one0, z_oneP, z_oneS, z_oneV, z_opO, z_opP, z_opS, z_opV, z_orF, z_orT, z_orVF, z_orVT, z_pI, z_paB, z_paK, z_paK2, z_pkK, z_puB, z_puK, z_putI, z_putM, z_putO, z_putV, z_r1K, z_r2K, z_r2K2, z_rdB, z_rdK, z_rdK2, z_rdM, z_reK, z_ret, z_retI, z_retN, z_rg1, z_rg2, z_rgI1, z_rgI2, z_rtV, z_saI, z_saO, z_seqB, z_seqC, z_seqN, z_seqR, z_sl, z_slK, z_slK2, z_slK3, z_slice, z_suB, z_suK, z_tK, z_tO, z_tV, z_tbK, z_tnK, z_truB, z_truI, z_truK, z_truL, z_truN, z_truT, z_tst, z_tuK, z_tupL, z_tupT, z_unK, z_vO, z_vS, z_vV, z_vals, z_vals0, z_wpB, z_wpO, z_yes, List.set_cons_zero, List.set_cons_succ, List.getElem?_cons_zero, List.getElem?_cons_succ, List.length_cons, List.length_nil, Bool.not_true, Bool.not_false, if_true, if_false, Bool.false_eq_true, reduceCtorEq, and_self, and_true, true_and, y_addI, y_sub, y_lt, y_gt, y_le, y_ge, y_neg, y_eqI, y_neI, Nat.reduceAdd, Nat.reduceLT, Nat.reduceLeDiff, decide_eq_true_eq, sz, Nat.zero_le, dn_len, List.isEmpty_cons, List.isEmpty_nil, List.cons_append, List.nil_append, List.all_cons, List.all_nil, Bool.and_true, Bool.true_and, Bool.and_self, it, it2, decide_eq_true c1, c8, all_map, ha]
            exact ⟨rfl, rfl⟩
          · refine body_P rfl rfl ?_
            show WP (ms_23 [.val (.tuple (dn p)), .val (.tuple xs), .no, .no]) _
            simp only [ms_23, z_And, z_AndV, z_Args, z_Args0, z_Asg, z_BV, z_Bin, z_Break, z_C, z_CallB, z_Chain, z_Comp, z_Cont, z_DGet, z_DIn, z_DPut, z_Enum, z_Expr, z_For, z_Group, z_If, z_It, z_List, z_Meth, z_NewK, z_NewT, z_Next, z_Nm, z_NoP, z_Not, z_Op, z_Or, z_OrV, z_P, z_Par, z_Pass, z_Pk, z_Read, z_Ret, z_RetN, z_Rg1, z_Rg2, z_SIf, z_Seq, z_Sl, z_Sub, z_TB, z_Take, z_Tru, z_Tu, z_Tup, z_Turn, z_Un, z_Var, z_abs, z_agK, z_andF, z_andT, z_andVF, z_andVT, z_apI, z_apO, z_app1, z_app2, z_appA, z_ar1, z_ar2, z_arK, z_arK2, z_argP, z_argS, z_argV, z_args, z_args0, z_asK, z_asK2, z_atI, z_atK, z_atO, z_atV, z_augE, z_augF, z_binK, z_binK2, z_bvK, z_callE, z_cbK, z_chK, z_chK2, z_chain2, z_chnF, z_chnT, z_clB, z_clK, z_coK, z_dgK, z_dgK2, z_dget, z_diK, z_diK2, z_din, z_dispL, z_dispT, z_dvget, z_exK, z_exc, z_go, z_go0, z_goK, z_gotD, z_gotIn, z_grK, z_ifF, z_ifT, z_ifVF, z_ifVT, z_int, z_intB, z_io0, z_ioP, z_ioS, z_ioV, z_isL, z_isO, z_itE, z_itL, z_itS, z_itT, z_kpO, z_kpV, z_lenL, z_lenT, z_liK, z_lisL, z_lisT, z_lkK, z_look0, z_look1, z_lookD, z_lookDK, z_lookP, z_lookV, z_mCall, z_meB, z_meI, z_meK, z_meO, z_meR, z_no, z_notK, z_npK, z_npO, z_npS, z_npV, z_ok, z_one0, z_oneP, z_oneS, z_oneV, z_opO, z_opP, z_opS, z_opV, z_orF, z_orT, z_orVF, z_orVT, z_pI, z_paB, z_paK, z_paK2, z_pkK, z_puB, z_puK, z_putI, z_putM, z_putO, z_putV, z_r1K, z_r2K, z_r2K2, z_rdB, z_rdK, z_rdK2, z_rdM, z_reK, z_ret, z_retI, z_retN, z_rg1, z_rg2, z_rgI1, z_rgI2, z_rtV, z_saI, z_saO, z_seqB, z_seqC, z_seqN, z_seqR, z_sl, z_slK, z_slK2, z_slK3, z_slice, z_suB, z_suK, z_tK, z_tO, z_tV, z_tbK, z_tnK, z_truB, z_truI, z_truK, z_truL, z_truN, z_truT, z_tst, z_tuK, z_tupL, z_tupT, z_unK, z_vO, z_vS, z_vV, z_vals, z_vals0, z_wpB, z_wpO, z_yes, List.set_cons_zero, List.set_cons_succ, List.getElem?_cons_zero, List.getElem?_cons_succ, List.length_cons, List.length_nil, Bool.not_true, Bool.not_false, if_true, if_false, Bool.false_eq_true, reduceCtorEq, and_self, and_true, true_and, y_addI, y_sub, y_lt, y_gt, y_le, y_ge, y_neg, y_eqI, y_neI, Nat.reduceAdd, Nat.reduceLT, Nat.reduceLeDiff, decide_eq_true_eq, sz, Nat.zero_le, dn_len, List.isEmpty_cons, List.isEmpty_nil, List.cons_append, List.nil_append, List.all_cons, List.all_nil, Bool.and_true, Bool.true_and, Bool.and_self, it, it2, decide_eq_true c1, c23, all_map, ha]
            exact ⟨rfl, rfl⟩
          · cases e
            rw [List.all_cons, List.all_cons, perm_tab T.a, perm_tab T.b] at ha
            cases ha
        | true =>
          match xs, hl, ha, hf, it, it2, c8, c23, c1, fin with
          | [d1, d2], hl, ha, hf, it, it2, c8, c23, c1, fin =>
            have ha2 := ha
            rw [List.all_cons, List.all_cons, Bool.and_eq_true, Bool.and_eq_true] at ha
            obtain ⟨A, rfl, hA⟩ := tab_perm ha.1
            obtain ⟨B, rfl, hB⟩ := tab_perm ha.2.1
            have lt : ∀ {C D : List Nat}, Perm0 C n → Perm0 D n → ∀ x ∈ C, x < D.length := fun {C D} hC hD x hx => by rw [hD.len]; exact hC.mem.mp hx
            have bAA := behind_ok (a := A) (b := A) (n := n) (by rw [hA.len]; omega) (lt hA hA)
            have bBB := behind_ok (a := B) (b := B) (n := n) (by rw [hB.len]; omega) (lt hB hB)
            have bAB := behind_ok (a := A) (b := B) (n := n) (by rw [hA.len]; omega) (lt hA hB)
            have ic := inv_comp (a := .val (.tuple (dn A))) (b := .val (.tuple (dn B))) hp hn hA hB rfl rfl
            have i0 : fIx (.tuple [.tuple (dn A), .tuple (dn B)]) (.int 0) = some (.val (.tuple (dn A))) := rfl
            have i1 : fIx (.tuple [.tuple (dn A), .tuple (dn B)]) (.int 1) = some (.val (.tuple (dn B))) := rfl
            have all2 : fAll (.list [.bool (decide (bh A A = List.range n)), .bool (decide (bh B B = List.range n))]) = some (.val (.bool (decide (bh A A = List.range n) && (decide (bh B B = List.range n) && true)))) := rfl
            have c2 : decide (((2 : Nat) : Int) = (2 : Int)) = true := rfl
            refine fin (decide (bh A A = List.range n) && (decide (bh B B = List.range n) && decide (bh A B = p))) ?_ ?_ fun A' B' e T => ?_
            · refine body_P rfl rfl ?_
              show WP (ms_8 [.val (.tuple (dn p)), .val (.tuple [.tuple (dn A), .tuple (dn B)]), .no, .no, .no, .no]) _
              cases h1 : decide (bh A A = List.range n) <;> cases h2 : decide (bh B B = List.range n) <;> rw [h1, h2] at ic all2 <;>
                simp only [ms_8, z_And, z_AndV, z_Args, z_Args0, z_Asg, z_BV, z_Bin, z_Break, z_C, z_CallB, z_Chain, z_Comp, z_Cont, z_DGet, z_DIn, z_DPut, z_Enum, z_Expr, z_For, z_Group, z_If, z_It, z_List, z_Meth, z_NewK, z_NewT, z_Next, z_Nm, z_NoP, z_Not, z_Op, z_Or, z_OrV, z_P, z_Par, z_Pass, z_Pk, z_Read, z_Ret, z_RetN, z_Rg1, z_Rg2, z_SIf, z_Seq, z_Sl, z_Sub, z_TB, z_Take, z_Tru, z_Tu, z_Tup, z_Turn, z_Un, z_Var, z_abs, z_agK, z_andF, z_andT, z_andVF, z_andVT, z_apI, z_apO, z_app1, z_app2, z_appA, z_ar1, z_ar2, z_arK, z_arK2, z_argP, z_argS, z_argV, z_args, z_args0, z_asK, z_asK2, z_atI, z_atK, z_atO, z_atV, z_augE, z_augF, z_binK, z_binK2, z_bvK, z_callE, z_cbK, z_chK, z_chK2, z_chain2, z_chnF, z_chnT, z_clB, z_clK, z_coK, z_dgK, z_dgK2, z_dget, z_diK, z_diK2, z_din, z_dispL, z_dispT, z_dvget, z_exK, z_exc, z_go, z_go0, z_goK, z_gotD, z_gotIn, z_grK, z_ifF, z_ifT, z_ifVF, z_ifVT, z_int, z_intB, z_io0, z_ioP, z_ioS, z_ioV, z_isL, z_isO, z_itE, z_itL, z_itS, z_itT, z_kpO, z_kpV, z_lenL, z_lenT, z_liK, z_lisL, z_lisT, z_lkK, z_look0, z_look1, z_lookD, z_lookDK, z_lookP, z_lookV, z_mCall, z_meB, z_meI, z_meK, z_meO, z_meR, z_no, z_notK, z_npK, z_npO, z_npS, z_npV, z_ok, z_one0, z_oneP, z_oneS, z_oneV, z_opO, z_opP, z_opS, z_opV, z_orF, z_orT, z_orVF, z_orVT, z_pI, z_paB, z_paK, z_paK2, z_pkK, z_puB, z_puK, z_putI, z_putM, z_putO, z_putV, z_r1K, z_r2K, z_r2K2, z_rdB, z_rdK, z_rdK2, z_rdM, z_reK, z_ret, z_retI, z_retN, z_rg1, z_rg2, z_rgI1, z_rgI2, z_rtV, z_saI, z_saO, z_seqB, z_seqC, z_seqN, z_seqR, z_sl, z_slK, z_slK2, z_slK3, z_slice, z_suB, z_suK, z_tK, z_tO, z_tV, z_tbK, z_tnK, z_truB, z_truI, z_truK, z_truL, z_truN, z_truT, z_tst, z_tuK, z_tupL, z_tupT, z_unK, z_vO, z_vS, z_vV, z_vals, z_vals0, z_wpB, z_wpO, z_yes, List.set_cons_zero, List.set_cons_succ, List.getElem?_cons_zero, List.getElem?_cons_succ, List.length_cons, List.length_nil, Bool.not_true, Bool.not_false, if_true, if_false, Bool.false_eq_true, reduceCtorEq, and_self, and_true, true_and, y_addI, y_sub, y_lt, y_gt, y_le, y_ge, y_neg, y_eqI, y_neI, Nat.reduceAdd, Nat.reduceLT, Nat.reduceLeDiff, decide_eq_true_eq, sz, Nat.zero_le, dn_len, List.isEmpty_cons, List.isEmpty_nil, List.cons_append, List.nil_append, List.all_cons, List.all_nil, Bool.and_true, Bool.true_and, Bool.and_self, it, it2, decide_eq_true c1, c8, all_map, ha2, c2, ic, all2, bAB.2, eqT, Bool.false_and] <;> exact ⟨rfl, rfl⟩
            · refine body_P rfl rfl ?_
              show WP (ms_23 [.val (.tuple (dn p)), .val (.tuple [.tuple (dn A), .tuple (dn B)]), .no, .no]) _
              cases h1 : decide (bh A A = List.range n) <;> cases h2 : decide (bh B B = List.range n) <;>
                simp only [ms_23, z_And, z_AndV, z_Args, z_Args0, z_Asg, z_BV, z_Bin, z_Break, z_C, z_CallB, z_Chain, z_Comp, z_Cont, z_DGet, z_DIn, z_DPut, z_Enum, z_Expr, z_For, z_Group, z_If, z_It, z_List, z_Meth, z_NewK, z_NewT, z_Next, z_Nm, z_NoP, z_Not, z_Op, z_Or, z_OrV, z_P, z_Par, z_Pass, z_Pk, z_Read, z_Ret, z_RetN, z_Rg1, z_Rg2, z_SIf, z_Seq, z_Sl, z_Sub, z_TB, z_Take, z_Tru, z_Tu, z_Tup, z_Turn, z_Un, z_Var, z_abs, z_agK, z_andF, z_andT, z_andVF, z_andVT, z_apI, z_apO, z_app1, z_app2, z_appA, z_ar1, z_ar2, z_arK, z_arK2, z_argP, z_argS, z_argV, z_args, z_args0, z_asK, z_asK2, z_atI, z_atK, z_atO, z_atV, z_augE, z_augF, z_binK, z_binK2, z_bvK, z_callE, z_cbK, z_chK, z_chK2, z_chain2, z_chnF, z_chnT, z_clB, z_clK, z_coK, z_dgK, z_dgK2, z_dget, z_diK, z_diK2, z_din, z_dispL, z_dispT, z_dvget, z_exK, z_exc, z_go, z_go0, z_goK, z_gotD, z_gotIn, z_grK, z_ifF, z_ifT, z_ifVF, z_ifVT, z_int, z_intB, z_io0, z_ioP, z_ioS, z_ioV, z_isL, z_isO, z_itE, z_itL, z_itS, z_itT, z_kpO, z_kpV, z_lenL, z_lenT, z_liK, z_lisL, z_lisT, z_lkK, z_look0, z_look1, z_lookD, z_lookDK, z_lookP, z_lookV, z_mCall, z_meB, z_meI, z_meK, z_meO, z_meR, z_no, z_notK, z_npK, z_npO, z_npS, z_npV, z_ok, z_one0, z_oneP, z_oneS, z_oneV, z_opO, z_opP, z_opS, z_opV, z_orF, z_orT, z_orVF, z_orVT, z_pI, z_paB, z_paK, z_paK2, z_pkK, z_puB, z_puK, z_putI, z_putM, z_putO, z_putV, z_r1K, z_r2K, z_r2K2, z_rdB, z_rdK, z_rdK2, z_rdM, z_reK, z_ret, z_retI, z_retN, z_rg1, z_rg2, z_rgI1, z_rgI2, z_rtV, z_saI, z_saO, z_seqB, z_seqC, z_seqN, z_seqR, z_sl, z_slK, z_slK2, z_slK3, z_slice, z_suB, z_suK, z_tK, z_tO, z_tV, z_tbK, z_tnK, z_truB, z_truI, z_truK, z_truL, z_truN, z_truT, z_tst, z_tuK, z_tupL, z_tupT, z_unK, z_vO, z_vS, z_vV, z_vals, z_vals0, z_wpB, z_wpO, z_yes, List.set_cons_zero, List.set_cons_succ, List.getElem?_cons_zero, List.getElem?_cons_succ, List.length_cons, List.length_nil, Bool.not_true, Bool.not_false, if_true, if_false, Bool.false_eq_true, reduceCtorEq, and_self, and_true, true_and, y_addI, y_sub, y_lt, y_gt, y_le, y_ge, y_neg, y_eqI, y_neI, Nat.reduceAdd, Nat.reduceLT, Nat.reduceLeDiff, decide_eq_true_eq, sz, Nat.zero_le, dn_len, List.isEmpty_cons, List.isEmpty_nil, List.cons_append, List.nil_append, List.all_cons, List.all_nil, Bool.and_true, Bool.true_and, Bool.and_self, it, it2, decide_eq_true c1, c23, all_map, ha2, c2, i0, i1, bAA.1, bBB.1, bAB.1, eqT, hpl, rg, h1, h2, Bool.false_and] <;> exact ⟨rfl, rfl⟩
            · have e1 : A = A' := by
                have := congrArg nats (PyData.tuple.inj (List.cons.inj (PyData.tuple.inj e)).1)
                rwa [nats_dn, nats_dn] at this
              have e2 : B = B' := by
                have := congrArg nats (PyData.tuple.inj (List.cons.inj (List.cons.inj (PyData.tuple.inj e)).2).1)
                rwa [nats_dn, nats_dn] at this
              subst e1
              subst e2
              rw [decide_eq_true T.aa, decide_eq_true T.bb, decide_eq_true T.ab]
              rfl
      · have c1 : ¬ ((xs.length : Nat) : Int) = 2 := by omega
        refine fin false ?_ ?_ fun A B e T => ?_
        · refine body_P rfl rfl ?_
          show WP (ms_8 [.val (.tuple (dn p)), .val (.tuple xs), .no, .no, .no, .no]) _
          simp only [ms_8, z_And, z_AndV, z_Args, z_Args0, z_Asg, z_BV, z_Bin, z_Break, z_C, z_CallB, z_Chain, z_Comp, z_Cont, z_DGet, z_DIn, z_DPut, z_Enum, z_Expr, z_For, z_Group, z_If, z_It, z_List, z_Meth, z_NewK, z_NewT, z_Next, z_Nm, z_NoP, z_Not, z_Op, z_Or, z_OrV, z_P, z_Par, z_Pass, z_Pk, z_Read, z_Ret, z_RetN, z_Rg1, z_Rg2, z_SIf, z_Seq, z_Sl, z_Sub, z_TB, z_Take, z_Tru, z_Tu, z_Tup, z_Turn, z_Un, z_Var, z_abs, z_agK, z_andF, z_andT, z_andVF, z_andVT, z_apI, z_apO, z_app1, z_app2, z_appA, z_ar1, z_ar2, z_arK, z_arK2, z_argP, z_argS, z_argV, z_args, z_args0, z_asK, z_asK2, z_atI, z_atK, z_atO, z_atV, z_augE, z_augF, z_binK, z_binK2, z_bvK, z_callE, z_cbK, z_chK, z_chK2, z_chain2, z_chnF, z_chnT, z_clB, z_clK, z_coK, z_dgK, z_dgK2, z_dget, z_diK, z_diK2, z_din, z_dispL, z_dispT, z_dvget, z_exK, z_exc, z_go, z_go0, z_goK, z_gotD, z_gotIn, z_grK, z_ifF, z_ifT, z_ifVF, z_ifVT, z_int, z_intB, z_io0, z_ioP, z_ioS, z_ioV, z_isL, z_isO, z_itE, z_itL, z_itS, z_itT, z_kpO, z_kpV, z_lenL, z_lenT, z_liK, z_lisL, z_lisT, z_lkK, z_look0, z_look1, z_lookD, z_lookDK, z_lookP, z_lookV, z_mCall, z_meB, z_meI, z_meK, z_meO, z_meR, z_no, z_notK, z_npK, z_npO, z_npS, z_npV, z_ok, z_one0, z_oneP, z_oneS, z_oneV, z_opO, z_opP, z_opS, z_opV, z_orF, z_orT, z_orVF, z_orVT, z_pI, z_paB, z_paK, z_paK2, z_pkK, z_puB, z_puK, z_putI, z_putM, z_putO, z_putV, z_r1K, z_r2K, z_r2K2, z_rdB, z_rdK, z_rdK2, z_rdM, z_reK, z_ret, z_retI, z_retN, z_rg1, z_rg2, z_rgI1, z_rgI2, z_rtV, z_saI, z_saO, z_seqB, z_seqC, z_seqN, z_seqR, z_sl, z_slK, z_slK2, z_slK3, z_slice, z_suB, z_suK, z_tK, z_tO, z_tV, z_tbK, z_tnK, z_truB, z_truI, z_truK, z_truL, z_truN, z_truT, z_tst, z_tuK, z_tupL, z_tupT, z_unK, z_vO, z_vS, z_vV, z_vals, z_vals0, z_wpB, z_wpO, z_yes, List.set_cons_zero, List.set_cons_succ, List.getElem?_cons_zero, List.getElem?_cons_succ, List.length_cons, List.length_nil, Bool.not_true, Bool.not_false, if_true, if_false, Bool.false_eq_true, reduceCtorEq, and_self, and_true, true_and, y_addI, y_sub, y_lt, y_gt, y_le, y_ge, y_neg, y_eqI, y_neI, Nat.reduceAdd, Nat.reduceLT, Nat.reduceLeDiff, decide_eq_true_eq, sz, Nat.zero_le, dn_len, List.isEmpty_cons, List.isEmpty_nil, List.cons_append, List.nil_append, List.all_cons, List.all_nil, Bool.and_true, Bool.true_and, Bool.and_self, it, it2, decide_eq_false c1]
          exact ⟨rfl, rfl⟩
        · refine body_P rfl rfl ?_
          show WP (ms_23 [.val (.tuple (dn p)), .val (.tuple xs), .no, .no]) _
          simp only [ms_23, z_And, z_AndV, z_Args, z_Args0, z_Asg, z_BV, z_Bin, z_Break, z_C, z_CallB, z_Chain, z_Comp, z_Cont, z_DGet, z_DIn, z_DPut, z_Enum, z_Expr, z_For, z_Group, z_If, z_It, z_List, z_Meth, z_NewK, z_NewT, z_Next, z_Nm, z_NoP, z_Not, z_Op, z_Or, z_OrV, z_P, z_Par, z_Pass, z_Pk, z_Read, z_Ret, z_RetN, z_Rg1, z_Rg2, z_SIf, z_Seq, z_Sl, z_Sub, z_TB, z_Take, z_Tru, z_Tu, z_Tup, z_Turn, z_Un, z_Var, z_abs, z_agK, z_andF, z_andT, z_andVF, z_andVT, z_apI, z_apO, z_app1, z_app2, z_appA, z_ar1, z_ar2, z_arK, z_arK2, z_argP, z_argS, z_argV, z_args, z_args0, z_asK, z_asK2, z_atI, z_atK, z_atO, z_atV, z_augE, z_augF, z_binK, z_binK2, z_bvK, z_callE, z_cbK, z_chK, z_chK2, z_chain2, z_chnF, z_chnT, z_clB, z_clK, z_coK, z_dgK, z_dgK2, z_dget, z_diK, z_diK2, z_din, z_dispL, z_dispT, z_dvget, z_exK, z_exc, z_go, z_go0, z_goK, z_gotD, z_gotIn, z_grK, z_ifF, z_ifT, z_ifVF, z_ifVT, z_int, z_intB, z_io0, z_ioP, z_ioS, z_ioV, z_isL, z_isO, z_itE, z_itL, z_itS, z_itT, z_kpO, z_kpV, z_lenL, z_lenT, z_liK, z_lisL, z_lisT, z_lkK, z_look0, z_look1, z_lookD, z_lookDK, z_lookP, z_lookV, z_mCall, z_meB, z_meI, z_meK, z_meO, z_meR, z_no, z_notK, z_npK, z_npO, z_npS, z_npV, z_ok, z_one0, z_oneP, z_oneS, z_oneV, z_opO, z_opP, z_opS, z_opV, z_orF, z_orT, z_orVF, z_orVT, z_pI, z_paB, z_paK, z_paK2, z_pkK, z_puB, z_puK, z_putI, z_putM, z_putO, z_putV, z_r1K, z_r2K, z_r2K2, z_rdB, z_rdK, z_rdK2, z_rdM, z_reK, z_ret, z_retI, z_retN, z_rg1, z_rg2, z_rgI1, z_rgI2, z_rtV, z_saI, z_saO, z_seqB, z_seqC, z_seqN, z_seqR, z_sl, z_slK, z_slK2, z_slK3, z_slice, z_suB, z_suK, z_tK, z_tO, z_tV, z_tbK, z_tnK, z_truB, z_truI, z_truK, z_truL, z_truN, z_truT, z_tst, z_tuK, z_tupL, z_tupT, z_unK, z_vO, z_vS, z_vV, z_vals, z_vals0, z_wpB, z_wpO, z_yes, List.set_cons_zero, List.set_cons_succ, List.getElem?_cons_zero, List.getElem?_cons_succ, List.length_cons, List.length_nil, Bool.not_true, Bool.not_false, if_true, if_false, Bool.false_eq_true, reduceCtorEq, and_self, and_true, true_and, y_addI, y_sub, y_lt, y_gt, y_le, y_ge, y_neg, y_eqI, y_neI, Nat.reduceAdd, Nat.reduceLT, Nat.reduceLeDiff, decide_eq_true_eq, sz, Nat.zero_le, dn_len, List.isEmpty_cons, List.isEmpty_nil, List.cons_append, List.nil_append, List.all_cons, List.all_nil, Bool.and_true, Bool.true_and, Bool.and_self, it, it2, decide_eq_false c1]
          exact ⟨rfl, rfl⟩
        · cases e
          exact absurd rfl hl
    | _ => cases ht
  · have it2 : isTup v = false := by cases h : isTup v with
      | true => exact absurd h ht
      | false => rfl
    have nd : notD v = true := by cases v <;> first | rfl | cases hv
    have it := isi_nd (g := isTup) (d := v) nd
    refine fin false ?_ ?_ fun A B e T => ?_
    · refine body_P rfl rfl ?_
      show WP (ms_8 [.val (.tuple (dn p)), .val v, .no, .no, .no, .no]) _
      simp only [ms_8, z_And, z_AndV, z_Args, z_Args0, z_Asg, z_BV, z_Bin, z_Break, z_C, z_CallB, z_Chain, z_Comp, z_Cont, z_DGet, z_DIn, z_DPut, z_Enum, z_Expr, z_For, z_Group, z_If, z_It, z_List, z_Meth, z_NewK, z_NewT, z_Next, z_Nm, z_NoP, z_Not, z_Op, z_Or, z_OrV, z_P, z_Par, z_Pass, z_Pk, z_Read, z_Ret, z_RetN, z_Rg1, z_Rg2, z_SIf, z_Seq, z_Sl, z_Sub, z_TB, z_Take, z_Tru, z_Tu, z_Tup, z_Turn, z_Un, z_Var, z_abs, z_agK, z_andF, z_andT, z_andVF, z_andVT, z_apI, z_apO, z_app1, z_app2, z_appA, z_ar1, z_ar2, z_arK, z_arK2, z_argP, z_argS, z_argV, z_args, z_args0, z_asK, z_asK2, z_atI, z_atK, z_atO, z_atV, z_augE, z_augF, z_binK, z_binK2, z_bvK, z_callE, z_cbK, z_chK, z_chK2, z_chain2, z_chnF, z_chnT, z_clB, z_clK, z_coK, z_dgK, z_dgK2, z_dget, z_diK, z_diK2, z_din, z_dispL, z_dispT, z_dvget, z_exK, z_exc, z_go, z_go0, z_goK, z_gotD, z_gotIn, z_grK, z_ifF, z_ifT, z_ifVF, z_ifVT, z_int, z_intB, z_io0, z_ioP, z_ioS, z_ioV, z_isL, z_isO, z_itE, z_itL, z_itS, z_itT, z_kpO, z_kpV, z_lenL, z_lenT, z_liK, z_lisL, z_lisT, z_lkK, z_look0, z_look1, z_lookD, z_lookDK, z_lookP, z_lookV, z_mCall, z_meB, z_meI, z_meK, z_meO, z_meR, z_no, z_notK, z_npK, z_npO, z_npS, z_npV, z_ok, z_one0, z_oneP, z_oneS, z_oneV, z_opO, z_opP, z_opS, z_opV, z_orF, z_orT, z_orVF, z_orVT, z_pI, z_paB, z_paK, z_paK2, z_pkK, z_puB, z_puK, z_putI, z_putM, z_putO, z_putV, z_r1K, z_r2K, z_r2K2, z_rdB, z_rdK, z_rdK2, z_rdM, z_reK, z_ret, z_retI, z_retN, z_rg1, z_rg2, z_rgI1, z_rgI2, z_rtV, z_saI, z_saO, z_seqB, z_seqC, z_seqN, z_seqR, z_sl, z_slK, z_slK2, z_slK3, z_slice, z_suB, z_suK, z_tK, z_tO, z_tV, z_tbK, z_tnK, z_truB, z_truI, z_truK, z_truL, z_truN, z_truT, z_tst, z_tuK, z_tupL, z_tupT, z_unK, z_vO, z_vS, z_vV, z_vals, z_vals0, z_wpB, z_wpO, z_yes, List.set_cons_zero, List.set_cons_succ, List.getElem?_cons_zero, List.getElem?_cons_succ, List.length_cons, List.length_nil, Bool.not_true, Bool.not_false, if_true, if_false, Bool.false_eq_true, reduceCtorEq, and_self, and_true, true_and, y_addI, y_sub, y_lt, y_gt, y_le, y_ge, y_neg, y_eqI, y_neI, Nat.reduceAdd, Nat.reduceLT, Nat.reduceLeDiff, decide_eq_true_eq, sz, Nat.zero_le, dn_len, List.isEmpty_cons, List.isEmpty_nil, List.cons_append, List.nil_append, List.all_cons, List.all_nil, Bool.and_true, Bool.true_and, Bool.and_self, it, it2]
      exact ⟨rfl, rfl⟩
    · refine body_P rfl rfl ?_
      show WP (ms_23 [.val (.tuple (dn p)), .val v, .no, .no]) _
      simp only [ms_23, z_And, z_AndV, z_Args, z_Args0, z_Asg, z_BV, z_Bin, z_Break, z_C, z_CallB, z_Chain, z_Comp, z_Cont, z_DGet, z_DIn, z_DPut, z_Enum, z_Expr, z_For, z_Group, z_If, z_It, z_List, z_Meth, z_NewK, z_NewT, z_Next, z_Nm, z_NoP, z_Not, z_Op, z_Or, z_OrV, z_P, z_Par, z_Pass, z_Pk, z_Read, z_Ret, z_RetN, z_Rg1, z_Rg2, z_SIf, z_Seq, z_Sl, z_Sub, z_TB, z_Take, z_Tru, z_Tu, z_Tup, z_Turn, z_Un, z_Var, z_abs, z_agK, z_andF, z_andT, z_andVF, z_andVT, z_apI, z_apO, z_app1, z_app2, z_appA, z_ar1, z_ar2, z_arK, z_arK2, z_argP, z_argS, z_argV, z_args, z_args0, z_asK, z_asK2, z_atI, z_atK, z_atO, z_atV, z_augE, z_augF, z_binK, z_binK2, z_bvK, z_callE, z_cbK, z_chK, z_chK2, z_chain2, z_chnF, z_chnT, z_clB, z_clK, z_coK, z_dgK, z_dgK2, z_dget, z_diK, z_diK2, z_din, z_dispL, z_dispT, z_dvget, z_exK, z_exc, z_go, z_go0, z_goK, z_gotD, z_gotIn, z_grK, z_ifF, z_ifT, z_ifVF, z_ifVT, z_int, z_intB, z_io0, z_ioP, z_ioS, z_ioV, z_isL, z_isO, z_itE, z_itL, z_itS, z_itT, z_kpO, z_kpV, z_lenL, z_lenT, z_liK, z_lisL, z_lisT, z_lkK, z_look0, z_look1, z_lookD, z_lookDK, z_lookP, z_lookV, z_mCall, z_meB, z_meI, z_meK, z_meO, z_meR, z_no, z_notK, z_npK, z_npO, z_npS, z_npV, z_ok, z_one0, z_oneP, z_oneS, z_oneV, z_opO, z_opP, z_opS, z_opV, z_orF, z_orT, z_orVF, z_orVT, z_pI, z_paB, z_paK, z_paK2, z_pkK, z_puB, z_puK, z_putI, z_putM, z_putO, z_putV, z_r1K, z_r2K, z_r2K2, z_rdB, z_rdK, z_rdK2, z_rdM, z_reK, z_ret, z_retI, z_retN, z_rg1, z_rg2, z_rgI1, z_rgI2, z_rtV, z_saI, z_saO, z_seqB, z_seqC, z_seqN, z_seqR, z_sl, z_slK, z_slK2, z_slK3, z_slice, z_suB, z_suK, z_tK, z_tO, z_tV, z_tbK, z_tnK, z_truB, z_truI, z_truK, z_truL, z_truN, z_truT, z_tst, z_tuK, z_tupL, z_tupT, z_unK, z_vO, z_vS, z_vV, z_vals, z_vals0, z_wpB, z_wpO, z_yes, List.set_cons_zero, List.set_cons_succ, List.getElem?_cons_zero, List.getElem?_cons_succ, List.length_cons, List.length_nil, Bool.not_true, Bool.not_false, if_true, if_false, Bool.false_eq_true, reduceCtorEq, and_self, and_true, true_and, y_addI, y_sub, y_lt, y_gt, y_le, y_ge, y_neg, y_eqI, y_neI, Nat.reduceAdd, Nat.reduceLT, Nat.reduceLeDiff, decide_eq_true_eq, sz, Nat.zero_le, dn_len, List.isEmpty_cons, List.isEmpty_nil, List.cons_append, List.nil_append, List.all_cons, List.all_nil, Bool.and_true, Bool.true_and, Bool.and_self, it, it2]
      exact ⟨rfl, rfl⟩
    · subst e
      cases it2
end VP
namespace VP
open PySem VL L2
/-! ### values that are bent -/
def Qs (P : Da → Bool) (m : Nat) : Da → Bool
  | .dict _ => false
  | .tuple ys => ys.all P && decide (ys.length ≤ m)
  | _ => true
theorem ix_mem {items : List Da} {i : Int} (h0 : 0 ≤ i) (h : i < items.length) : ∃ v ∈ items, fIx (.list items) (.int i) = some (.val v) := by
  have hl : i.toNat < items.length := by omega
  exact ⟨items[i.toNat], List.getElem_mem _, y_ixL (atI_at h0 (List.getElem?_eq_getElem hl))⟩
theorem cut_len {xs : List Da} {lo hi : Option Int} : (cutD xs lo hi).length ≤ xs.length := by
  unfold cutD
  rw [List.length_take, List.length_drop]
  omega
theorem cut_all {P : Da → Bool} {xs : List Da} {lo hi : Option Int} (h : xs.all P = true) : (cutD xs lo hi).all P = true := by
  refine List.all_eq_true.mpr fun x hx => List.all_eq_true.mp h x ?_
  unfold cutD at hx
  exact List.drop_subset _ _ (List.take_subset _ _ hx)
theorem cut_lo {xs : List Da} {j : Nat} (h : j ≤ xs.length) : (cutD xs none (some (j : Int))).length = j := by
  unfold cutD
  rw [HT.sIx_nat, HT.sIx_none, List.length_take, List.length_drop]
  omega
theorem cut_hi {xs : List Da} {j : Nat} (h : j ≤ xs.length) : (cutD xs (some (j : Int)) none).length = xs.length - j := by
  unfold cutD
  rw [HT.sIx_nat, HT.sIx_none, List.length_take, List.length_drop]
  omega
theorem revT {xs : List Da} : fRev (.tuple xs) = some (.val (.tuple xs.reverse)) := rfl
theorem bent_int {n : Nat} {i : Int} {ds : List Da} (D : DrawOk ds) : ∃ v ds', fn_22 (n + 1) [.io ds, .val (.int i)] = .ok (.val v) (some ds') ∧ notD v = true ∧ DrawOk ds' := by
  have it := isi_nd (g := isTup) (d := .int i) rfl
  have it2 : isTup (.int i) = false := rfl
  have ii := isi_nd (g := isInt) (d := .int i) rfl
  have ii2 : isInt (.int i) = true := rfl
  obtain ⟨r, ds', ht, r0, r1, D'⟩ := take_ok (many := 7) D (by omega) (by omega)
  obtain ⟨v, hv, ev⟩ := ix_mem (items := [.int 0, .int 1, .int (i + 1), .int (-1), .none, .str "0", .bool (decide (i = 0))]) (i := r) r0 (by simpa using r1)
  have key : WF (fn_22 (n + 1) [.io ds, .val (.int i)]) (fun r io => r = .val v ∧ io = some ds') := by
    refine body_P (np := 2) (n := 3) (ms := ms_22 (fn_22 n)) rfl rfl ?_
    show WP (ms_22 (fn_22 n) [.io ds, .val (.int i), .no]) _
    simp only [ms_22, z_And, z_AndV, z_Args, z_Args0, z_Asg, z_BV, z_Bin, z_Break, z_C, z_CallB, z_Chain, z_Comp, z_Cont, z_DGet, z_DIn, z_DPut, z_Enum, z_Expr, z_For, z_Group, z_If, z_It, z_List, z_Meth, z_NewK, z_NewT, z_Next, z_Nm, z_NoP, z_Not, z_Op, z_Or, z_OrV, z_P, z_Par, z_Pass, z_Pk, z_Read, z_Ret, z_RetN, z_Rg1, z_Rg2, z_SIf, z_Seq, z_Sl, z_Sub, z_TB, z_Take, z_Tru, z_Tu, z_Tup, z_Turn, z_Un, z_Var, z_abs, z_agK, z_andF, z_andT, z_andVF, z_andVT, z_apI, z_apO, z_app1, z_app2, z_appA, z_ar1, z_ar2, z_arK, z_arK2, z_argP, z_argS, z_argV, z_args, z_args0, z_asK, z_asK2, z_atI, z_atK, z_atO, z_atV, z_augE, z_augF, z_binK, z_binK2, z_bvK, z_callE, z_cbK, z_chK, z_chK2, z_chain2, z_chnF, z_chnT, z_clB, z_clK, z_coK, z_dgK, z_dgK2, z_dget, z_diK, z_diK2, z_din, z_dispL, z_dispT, z_dvget, z_exK, z_exc, z_go, z_go0, z_goK, z_gotD, z_gotIn, z_grK, z_ifF, z_ifT, z_ifVF, z_ifVT, z_int, z_intB, z_io0, z_ioP, z_ioS, z_ioV, z_isL, z_isO, z_itE, z_itL, z_itS, z_itT, z_kpO, z_kpV, z_lenL, z_lenT, z_liK, z_lisL, z_lisT, z_lkK, z_look0, z_look1, z_lookD, z_lookDK, z_lookP, z_lookV, z_mCall, z_meB, z_meI, z_meK, z_meO, z_meR, z_no, z_notK, z_npK, z_npO, z_npS, z_npV, z_ok, z_one0, z_oneP, z_oneS, z_oneV, z_opO, z_opP, z_opS, z_opV, z_orF, z_orT, z_orVF, z_orVT, z_pI, z_paB, z_paK, z_paK2, z_pkK, z_puB, z_puK, z_putI, z_putM, z_putO, z_putV, z_r1K, z_r2K, z_r2K2, z_rdB, z_rdK, z_rdK2, z_rdM, z_reK, z_ret, z_retI, z_retN, z_rg1, z_rg2, z_rgI1, z_rgI2, z_rtV, z_saI, z_saO, z_seqB, z_seqC, z_seqN, z_seqR, z_sl, z_slK, z_slK2, z_slK3, z_slice, z_suB, z_suK, z_tK, z_tO, z_tV, z_tbK, z_tnK, z_truB, z_truI, z_truK, z_truL, z_truN, z_truT, z_tst, z_tuK, z_tupL, z_tupT, z_unK, z_vO, z_vS, z_vV, z_vals, z_vals0, z_wpB, z_wpO, z_yes, List.set_cons_zero, List.set_cons_succ, List.getElem?_cons_zero, List.getElem?_cons_succ, List.length_cons, List.length_nil, Bool.not_true, Bool.not_false, if_true, if_false, Bool.false_eq_true, reduceCtorEq, and_self, and_true, true_and, y_addI, y_sub, y_lt, y_gt, y_le, y_ge, y_neg, y_eqI, y_neI, Nat.reduceAdd, Nat.reduceLT, Nat.reduceLeDiff, decide_eq_true_eq, sz, Nat.zero_le, dn_len, List.isEmpty_cons, List.isEmpty_nil, List.cons_append, List.nil_append, List.all_cons, List.all_nil, Bool.and_true, Bool.true_and, Bool.and_self, it, it2, ii, ii2, ht, ev]
    exact ⟨rfl, rfl⟩
  obtain ⟨r2, io, h, rfl, rfl⟩ := ok_of_P key
  refine ⟨v, ds', h, ?_, D'⟩
  simp only [List.mem_cons, List.not_mem_nil, or_false] at hv
  rcases hv with rfl | rfl | rfl | rfl | rfl | rfl | rfl <;> rfl
theorem bent_tup {n m : Nat} {P P' : Da → Bool} {xs : List Da} {ds : List Da} (hPP : ∀ x, P x = true → P' x = true) (h0 : P' (.int 0) = true) (hm : m ≤ 100) (hP : xs.all P = true) (hl : xs.length ≤ m)
    (ih : ∀ x ds, P x = true → DrawOk ds → ∃ v ds', fn_22 n [.io ds, .val x] = .ok (.val v) (some ds') ∧ P' v = true ∧ DrawOk ds') (D : DrawOk ds) :
    ∃ v ds', fn_22 (n + 1) [.io ds, .val (.tuple xs)] = .ok (.val v) (some ds') ∧ Qs P' (m + 1) v = true ∧ DrawOk ds' := by
  have it := isi_nd (g := isTup) (d := .tuple xs) rfl
  have it2 : isTup (.tuple xs) = true := rfl
  have hP' : xs.all P' = true := List.all_eq_true.mpr fun x hx => hPP x (List.all_eq_true.mp hP x hx)
  have qT : ∀ ys : List Da, ys.all P' = true → ys.length ≤ m + 1 → Qs P' (m + 1) (.tuple ys) = true := fun ys h1 h2 => by
    show (ys.all P' && decide (ys.length ≤ m + 1)) = true
    rw [h1, decide_eq_true h2]
    rfl
  have add0 : fAdd (.tuple xs) (.tuple [.int 0]) = some (.val (.tuple (xs ++ [.int 0]))) := y_addT (by rw [sz]; show xs.length + 1 ≤ _; omega)
  have sl1 : fSl (.tuple xs) none (some (-1)) = some (.val (.tuple (cutD xs none (some (-1))))) := rfl
  -- one of six
  have six : ∀ {ds : List Da}, DrawOk ds → ∃ v ds' r, fn_13 [.io ds, .val (.int 6)] = .ok (.val (.int r)) (some ds') ∧ fIx (.list [.list xs, .tuple (xs ++ [.int 0]), .tuple (cutD xs none (some (-1))), .tuple xs.reverse, .none, .tuple []]) (.int r) = some (.val v) ∧ Qs P' (m + 1) v = true ∧ DrawOk ds' := fun {ds} D => by
    obtain ⟨r, ds', ht, r0, r1, D'⟩ := take_ok (many := 6) D (by omega) (by omega)
    obtain ⟨v, hv, ev⟩ := ix_mem (items := [.list xs, .tuple (xs ++ [.int 0]), .tuple (cutD xs none (some (-1))), .tuple xs.reverse, .none, .tuple []]) (i := r) r0 (by simpa using r1)
    refine ⟨v, ds', r, ht, ev, ?_, D'⟩
    simp only [List.mem_cons, List.not_mem_nil, or_false] at hv
    rcases hv with rfl | rfl | rfl | rfl | rfl | rfl
    · rfl
    · refine qT _ ?_ (by rw [List.length_append, List.length_singleton]; omega)
      rw [List.all_append, hP', List.all_cons, h0]
      rfl
    · exact qT _ (cut_all hP') (Nat.le_trans cut_len (by omega))
    · exact qT _ (by rw [List.all_reverse]; exact hP') (by rw [List.length_reverse]; omega)
    · rfl
    · exact qT [] rfl (Nat.zero_le _)
  by_cases hz : xs.length = 0
  · have c1 : ¬ (0 : Int) < ((xs.length : Nat) : Int) := by omega
    obtain ⟨v, ds', r, ht, ev, hq, D'⟩ := six D
    have key : WF (fn_22 (n + 1) [.io ds, .val (.tuple xs)]) (fun r io => r = .val v ∧ io = some ds') := by
      refine body_P (np := 2) (n := 3) (ms := ms_22 (fn_22 n)) rfl rfl ?_
      show WP (ms_22 (fn_22 n) [.io ds, .val (.tuple xs), .no]) _
      simp only [ms_22, z_And, z_AndV, z_Args, z_Args0, z_Asg, z_BV, z_Bin, z_Break, z_C, z_CallB, z_Chain, z_Comp, z_Cont, z_DGet, z_DIn, z_DPut, z_Enum, z_Expr, z_For, z_Group, z_If, z_It, z_List, z_Meth, z_NewK, z_NewT, z_Next, z_Nm, z_NoP, z_Not, z_Op, z_Or, z_OrV, z_P, z_Par, z_Pass, z_Pk, z_Read, z_Ret, z_RetN, z_Rg1, z_Rg2, z_SIf, z_Seq, z_Sl, z_Sub, z_TB, z_Take, z_Tru, z_Tu, z_Tup, z_Turn, z_Un, z_Var, z_abs, z_agK, z_andF, z_andT, z_andVF, z_andVT, z_apI, z_apO, z_app1, z_app2, z_appA, z_ar1, z_ar2, z_arK, z_arK2, z_argP, z_argS, z_argV, z_args, z_args0, z_asK, z_asK2, z_atI, z_atK, z_atO, z_atV, z_augE, z_augF, z_binK, z_binK2, z_bvK, z_callE, z_cbK, z_chK, z_chK2, z_chain2, z_chnF, z_chnT, z_clB, z_clK, z_coK, z_dgK, z_dgK2, z_dget, z_diK, z_diK2, z_din, z_dispL, z_dispT, z_dvget, z_exK, z_exc, z_go, z_go0, z_goK, z_gotD, z_gotIn, z_grK, z_ifF, z_ifT, z_ifVF, z_ifVT, z_int, z_intB, z_io0, z_ioP, z_ioS, z_ioV, z_isL, z_isO, z_itE, z_itL, z_itS, z_itT, z_kpO, z_kpV, z_lenL, z_lenT, z_liK, z_lisL, z_lisT, z_lkK, z_look0, z_look1, z_lookD, z_lookDK, z_lookP, z_lookV, z_mCall, z_meB, z_meI, z_meK, z_meO, z_meR, z_no, z_notK, z_npK, z_npO, z_npS, z_npV, z_ok, z_one0, z_oneP, z_oneS, z_oneV, z_opO, z_opP, z_opS, z_opV, z_orF, z_orT, z_orVF, z_orVT, z_pI, z_paB, z_paK, z_paK2, z_pkK, z_puB, z_puK, z_putI, z_putM, z_putO, z_putV, z_r1K, z_r2K, z_r2K2, z_rdB, z_rdK, z_rdK2, z_rdM, z_reK, z_ret, z_retI, z_retN, z_rg1, z_rg2, z_rgI1, z_rgI2, z_rtV, z_saI, z_saO, z_seqB, z_seqC, z_seqN, z_seqR, z_sl, z_slK, z_slK2, z_slK3, z_slice, z_suB, z_suK, z_tK, z_tO, z_tV, z_tbK, z_tnK, z_truB, z_truI, z_truK, z_truL, z_truN, z_truT, z_tst, z_tuK, z_tupL, z_tupT, z_unK, z_vO, z_vS, z_vV, z_vals, z_vals0, z_wpB, z_wpO, z_yes, List.set_cons_zero, List.set_cons_succ, List.getElem?_cons_zero, List.getElem?_cons_succ, List.length_cons, List.length_nil, Bool.not_true, Bool.not_false, if_true, if_false, Bool.false_eq_true, reduceCtorEq, and_self, and_true, true_and, y_addI, y_sub, y_lt, y_gt, y_le, y_ge, y_neg, y_eqI, y_neI, Nat.reduceAdd, Nat.reduceLT, Nat.reduceLeDiff, decide_eq_true_eq, sz, Nat.zero_le, dn_len, List.isEmpty_cons, List.isEmpty_nil, List.cons_append, List.nil_append, List.all_cons, List.all_nil, Bool.and_true, Bool.true_and, Bool.and_self, it, it2, decide_eq_false c1, add0, sl1, revT, ht, ev]
      exact ⟨rfl, rfl⟩
    obtain ⟨r2, io, h, rfl, rfl⟩ := ok_of_P key
    exact ⟨v, ds', h, hq, D'⟩
  · have c1 : (0 : Int) < ((xs.length : Nat) : Int) := by omega
    obtain ⟨r1, ds1, ht1, r10, r11, D1⟩ := take_ok (many := 4) D (by omega) (by omega)
    by_cases hr : (0 : Int) < r1
    · obtain ⟨r2, ds2, ht2, r20, r21, D2⟩ := take_ok (many := ((xs.length : Nat) : Int)) D1 (by omega) (by omega)
      have hj : r2.toNat < xs.length := by omega
      have er : r2 = ((r2.toNat : Nat) : Int) := by omega
      have hx : xs[r2.toNat]? = some xs[r2.toNat] := List.getElem?_eq_getElem hj
      have i1 : fIx (.tuple xs) (.int ((r2.toNat : Nat) : Int)) = some (.val xs[r2.toNat]) := y_ixT (atI_at (by omega) (by rw [Int.toNat_natCast]; exact hx))
      obtain ⟨v, ds3, hv, pv, D3⟩ := ih xs[r2.toNat] ds2 (List.all_eq_true.mp hP _ (List.getElem_mem hj)) D2
      have e1 : ((r2.toNat : Nat) : Int) + 1 = ((r2.toNat + 1 : Nat) : Int) := by omega
      have sa : fSl (.tuple xs) none (some ((r2.toNat : Nat) : Int)) = some (.val (.tuple (cutD xs none (some ((r2.toNat : Nat) : Int))))) := rfl
      have sb : fSl (.tuple xs) (some ((r2.toNat + 1 : Nat) : Int)) none = some (.val (.tuple (cutD xs (some ((r2.toNat + 1 : Nat) : Int)) none))) := rfl
      have la := cut_lo (xs := xs) (j := r2.toNat) (by omega)
      have lb := cut_hi (xs := xs) (j := r2.toNat + 1) (by omega)
      have a1 : fAdd (.tuple (cutD xs none (some ((r2.toNat : Nat) : Int)))) (.tuple [v]) = some (.val (.tuple (cutD xs none (some ((r2.toNat : Nat) : Int)) ++ [v]))) := y_addT (by rw [sz, la]; show r2.toNat + 1 ≤ _; omega)
      have a2 : fAdd (.tuple (cutD xs none (some ((r2.toNat : Nat) : Int)) ++ [v])) (.tuple (cutD xs (some ((r2.toNat + 1 : Nat) : Int)) none)) = some (.val (.tuple ((cutD xs none (some ((r2.toNat : Nat) : Int)) ++ [v]) ++ cutD xs (some ((r2.toNat + 1 : Nat) : Int)) none))) :=
        y_addT (by rw [sz, List.length_append, la, lb, List.length_singleton]; omega)
      rw [er] at ht2
      have key : WF (fn_22 (n + 1) [.io ds, .val (.tuple xs)]) (fun r io => r = .val (.tuple ((cutD xs none (some ((r2.toNat : Nat) : Int)) ++ [v]) ++ cutD xs (some ((r2.toNat + 1 : Nat) : Int)) none)) ∧ io = some ds3) := by
        refine body_P (np := 2) (n := 3) (ms := ms_22 (fn_22 n)) rfl rfl ?_
        show WP (ms_22 (fn_22 n) [.io ds, .val (.tuple xs), .no]) _
        simp only [ms_22, z_And, z_AndV, z_Args, z_Args0, z_Asg, z_BV, z_Bin, z_Break, z_C, z_CallB, z_Chain, z_Comp, z_Cont, z_DGet, z_DIn, z_DPut, z_Enum, z_Expr, z_For, z_Group, z_If, z_It, z_List, z_Meth, z_NewK, z_NewT, z_Next, z_Nm, z_NoP, z_Not, z_Op, z_Or, z_OrV, z_P, z_Par, z_Pass, z_Pk, z_Read, z_Ret, z_RetN, z_Rg1, z_Rg2, z_SIf, z_Seq, z_Sl, z_Sub, z_TB, z_Take, z_Tru, z_Tu, z_Tup, z_Turn, z_Un, z_Var, z_abs, z_agK, z_andF, z_andT, z_andVF, z_andVT, z_apI, z_apO, z_app1, z_app2, z_appA, z_ar1, z_ar2, z_arK, z_arK2, z_argP, z_argS, z_argV, z_args, z_args0, z_asK, z_asK2, z_atI, z_atK, z_atO, z_atV, z_augE, z_augF, z_binK, z_binK2, z_bvK, z_callE, z_cbK, z_chK, z_chK2, z_chain2, z_chnF, z_chnT, z_clB, z_clK, z_coK, z_dgK, z_dgK2, z_dget, z_diK, z_diK2, z_din, z_dispL, z_dispT, z_dvget, z_exK, z_exc, z_go, z_go0, z_goK, z_gotD, z_gotIn, z_grK, z_ifF, z_ifT, z_ifVF, z_ifVT, z_int, z_intB, z_io0, z_ioP, z_ioS, z_ioV, z_isL, z_isO, z_itE, z_itL, z_itS, z_itT, z_kpO, z_kpV, z_lenL, z_lenT, z_liK, z_lisL, z_lisT, z_lkK, z_look0, z_look1, z_lookD, z_lookDK, z_lookP, z_lookV, z_mCall, z_meB, z_meI, z_meK, z_meO, z_meR, z_no, z_notK, z_npK, z_npO, z_npS, z_npV, z_ok, z_one0, z_oneP, z_oneS, z_oneV, z_opO, z_opP, z_opS, z_opV, z_orF, z_orT, z_orVF, z_orVT, z_pI, z_paB, z_paK, z_paK2, z_pkK, z_puB, z_puK, z_putI, z_putM, z_putO, z_putV, z_r1K, z_r2K, z_r2K2, z_rdB, z_rdK, z_rdK2, z_rdM, z_reK, z_ret, z_retI, z_retN, z_rg1, z_rg2, z_rgI1, z_rgI2, z_rtV, z_saI, z_saO, z_seqB, z_seqC, z_seqN, z_seqR, z_sl, z_slK, z_slK2, z_slK3, z_slice, z_suB, z_suK, z_tK, z_tO, z_tV, z_tbK, z_tnK, z_truB, z_truI, z_truK, z_truL, z_truN, z_truT, z_tst, z_tuK, z_tupL, z_tupT, z_unK, z_vO, z_vS, z_vV, z_vals, z_vals0, z_wpB, z_wpO, z_yes, List.set_cons_zero, List.set_cons_succ, List.getElem?_cons_zero, List.getElem?_cons_succ, List.length_cons, List.length_nil, Bool.not_true, Bool.not_false, if_true, if_false, Bool.false_eq_true, reduceCtorEq, and_self, and_true, true_and, y_addI, y_sub, y_lt, y_gt, y_le, y_ge, y_neg, y_eqI, y_neI, Nat.reduceAdd, Nat.reduceLT, Nat.reduceLeDiff, decide_eq_true_eq, sz, Nat.zero_le, dn_len, List.isEmpty_cons, List.isEmpty_nil, List.cons_append, List.nil_append, List.all_cons, List.all_nil, Bool.and_true, Bool.true_and, Bool.and_self, it, it2, decide_eq_true c1, ht1, decide_eq_true hr, ht2, i1, e1, sa, sb, hv, a1, a2]
        exact ⟨rfl, rfl⟩
      obtain ⟨r3, io, h, rfl, rfl⟩ := ok_of_P key
      refine ⟨_, ds3, h, qT _ ?_ ?_, D3⟩
      · rw [List.all_append, List.all_append, cut_all hP', cut_all hP', List.all_cons, pv]
        rfl
      · rw [List.length_append, List.length_append, la, lb, List.length_singleton]
        omega
    · obtain ⟨v, ds', r, ht, ev, hq, D'⟩ := six D1
      have key : WF (fn_22 (n + 1) [.io ds, .val (.tuple xs)]) (fun r io => r = .val v ∧ io = some ds') := by
        refine body_P (np := 2) (n := 3) (ms := ms_22 (fn_22 n)) rfl rfl ?_
        show WP (ms_22 (fn_22 n) [.io ds, .val (.tuple xs), .no]) _
        simp only [ms_22, z_And, z_AndV, z_Args, z_Args0, z_Asg, z_BV, z_Bin, z_Break, z_C, z_CallB, z_Chain, z_Comp, z_Cont, z_DGet, z_DIn, z_DPut, z_Enum, z_Expr, z_For, z_Group, z_If, z_It, z_List, z_Meth, z_NewK, z_NewT, z_Next, z_Nm, z_NoP, z_Not, z_Op, z_Or, z_OrV, z_P, z_Par, z_Pass, z_Pk, z_Read, z_Ret, z_RetN, z_Rg1, z_Rg2, z_SIf, z_Seq, z_Sl, z_Sub, z_TB, z_Take, z_Tru, z_Tu, z_Tup, z_Turn, z_Un, z_Var, z_abs, z_agK, z_andF, z_andT, z_andVF, z_andVT, z_apI, z_apO, z_app1, z_app2, z_appA, z_ar1, z_ar2, z_arK, z_arK2, z_argP, z_argS, z_argV, z_args, z_args0, z_asK, z_asK2, z_atI, z_atK, z_atO, z_atV, z_augE, z_augF, z_binK, z_binK2, z_bvK, z_callE, z_cbK, z_chK, z_chK2, z_chain2, z_chnF, z_chnT, z_clB, z_clK, z_coK, z_dgK, z_dgK2, z_dget, z_diK, z_diK2, z_din, z_dispL, z_dispT, z_dvget, z_exK, z_exc, z_go, z_go0, z_goK, z_gotD, z_gotIn, z_grK, z_ifF, z_ifT, z_ifVF, z_ifVT, z_int, z_intB, z_io0, z_ioP, z_ioS, z_ioV, z_isL, z_isO, z_itE, z_itL, z_itS, z_itT, z_kpO, z_kpV, z_lenL, z_lenT, z_liK, z_lisL, z_lisT, z_lkK, z_look0, z_look1, z_lookD, z_lookDK, z_lookP, z_lookV, z_mCall, z_meB, z_meI, z_meK, z_meO, z_meR, z_no, z_notK, z_npK, z_npO, z_npS, z_npV, z_ok, z_one0, z_oneP, z_oneS, z_oneV, z_opO, z_opP, z_opS, z_opV, z_orF, z_orT, z_orVF, z_orVT, z_pI, z_paB, z_paK, z_paK2, z_pkK, z_puB, z_puK, z_putI, z_putM, z_putO, z_putV, z_r1K, z_r2K, z_r2K2, z_rdB, z_rdK, z_rdK2, z_rdM, z_reK, z_ret, z_retI, z_retN, z_rg1, z_rg2, z_rgI1, z_rgI2, z_rtV, z_saI, z_saO, z_seqB, z_seqC, z_seqN, z_seqR, z_sl, z_slK, z_slK2, z_slK3, z_slice, z_suB, z_suK, z_tK, z_tO, z_tV, z_tbK, z_tnK, z_truB, z_truI, z_truK, z_truL, z_truN, z_truT, z_tst, z_tuK, z_tupL, z_tupT, z_unK, z_vO, z_vS, z_vV, z_vals, z_vals0, z_wpB, z_wpO, z_yes, List.set_cons_zero, List.set_cons_succ, List.getElem?_cons_zero, List.getElem?_cons_succ, List.length_cons, List.length_nil, Bool.not_true, Bool.not_false, if_true, if_false, Bool.false_eq_true, reduceCtorEq, and_self, and_true, true_and, y_addI, y_sub, y_lt, y_gt, y_le, y_ge, y_neg, y_eqI, y_neI, Nat.reduceAdd, Nat.reduceLT, Nat.reduceLeDiff, decide_eq_true_eq, sz, Nat.zero_le, dn_len, List.isEmpty_cons, List.isEmpty_nil, List.cons_append, List.nil_append, List.all_cons, List.all_nil, Bool.and_true, Bool.true_and, Bool.and_self, it, it2, decide_eq_true c1, ht1, decide_eq_false hr, add0, sl1, revT, ht, ev]
        exact ⟨rfl, rfl⟩
      obtain ⟨r2, io, h, rfl, rfl⟩ := ok_of_P key
      exact ⟨v, ds', h, hq, D'⟩
def intD : Da → Bool
  | .int _ => true
  | _ => false
theorem dn_ints {p : List Nat} : (dn p).all intD = true := by
  refine List.all_eq_true.mpr fun x hx => ?_
  obtain ⟨i, _, rfl⟩ := List.mem_map.mp hx
  rfl
def pairT (m : Nat) : Da → Bool
  | .tuple ys => ys.all intD && decide (ys.length ≤ m)
  | _ => false
theorem bent_ok {A B : List Nat} {ds : List Da} (D : DrawOk ds) (ha : A.length ≤ 50) (hb : B.length ≤ 50) : ∃ v ds', fn_22 4 [.io ds, .val (.tuple [.tuple (dn A), .tuple (dn B)])] = .ok (.val v) (some ds') ∧ flat2 v = true ∧ DrawOk ds' := by
  have s1 : ∀ x ds, pairT 50 x = true → DrawOk ds → ∃ v ds', fn_22 3 [.io ds, .val x] = .ok (.val v) (some ds') ∧ Qs notD 51 v = true ∧ DrawOk ds' := fun x ds hx D => by
    cases x with
    | tuple ys =>
      have hx : (ys.all intD && decide (ys.length ≤ 50)) = true := hx
      rw [Bool.and_eq_true] at hx
      refine bent_tup (P := intD) (P' := notD) (m := 50) (fun x h => by cases x <;> first | rfl | cases h) rfl (by omega) hx.1 (of_decide_eq_true hx.2) (fun x ds hx D => ?_) D
      cases x with
      | int i => exact bent_int D
      | _ => cases hx
    | _ => cases hx
  have pt : ∀ {C : List Nat}, C.length ≤ 50 → pairT 50 (.tuple (dn C)) = true := fun {C} h => by
    show ((dn C).all intD && decide ((dn C).length ≤ 50)) = true
    rw [dn_ints, dn_len, decide_eq_true h]
    rfl
  obtain ⟨v, ds', h1, h2, h3⟩ := bent_tup (n := 3) (P := pairT 50) (P' := Qs notD 51) (m := 50) (xs := [.tuple (dn A), .tuple (dn B)]) (fun x h => by
    cases x with
    | tuple ys =>
      have h : (ys.all intD && decide (ys.length ≤ 50)) = true := h
      rw [Bool.and_eq_true] at h
      show (ys.all notD && decide (ys.length ≤ 51)) = true
      have h4 := of_decide_eq_true h.2
      rw [decide_eq_true (show ys.length ≤ 51 by omega), Bool.and_true]
      refine List.all_eq_true.mpr fun z hz => ?_
      have := List.all_eq_true.mp h.1 z hz
      cases z <;> first | rfl | cases this
    | _ => cases h) rfl (by omega) (by rw [List.all_cons, List.all_cons, pt ha, pt hb]; rfl) (by show 2 ≤ 50; omega) s1 D
  refine ⟨v, ds', h1, ?_, h3⟩
  have w1 : ∀ z, Qs notD 51 z = true → flat1 z = true := fun z hz => by
    cases z with
    | tuple ys =>
      have h : (ys.all notD && decide (ys.length ≤ 51)) = true := hz
      rw [Bool.and_eq_true] at h
      have h4 := of_decide_eq_true h.2
      show (ys.all notD && decide (ys.length ≤ 1000)) = true
      rw [h.1, decide_eq_true (show ys.length ≤ 1000 by omega)]
      rfl
    | dict ys => cases hz
    | _ => rfl
  cases v with
  | tuple ys =>
    have h : (ys.all (Qs notD 51) && decide (ys.length ≤ 51)) = true := h2
    rw [Bool.and_eq_true] at h
    have h4 := of_decide_eq_true h.2
    show (ys.all flat1 && decide (ys.length ≤ 1000)) = true
    rw [decide_eq_true (show ys.length ≤ 1000 by omega), Bool.and_true]
    exact List.all_eq_true.mpr fun z hz => w1 z (List.all_eq_true.mp h.1 z hz)
  | dict ys => cases h2
  | _ => rfl
end VP
namespace VP
open PySem VL L2
/-! ### lengths of rings -/
structure GL (L : List (Int × List Da)) (ls : List Nat) (R : List (List Nat)) : Prop where
  ks : L.map (·.1) = ls.map fun (x : Nat) => (x : Int)
  all : ∀ r ∈ R, r.length ∈ ls
  sum : ls.sum ≤ (R.map List.length).sum
  pos : ∀ l ∈ ls, 1 ≤ l
  len : ls.length ≤ R.length
  vals : ∀ e ∈ L, e.2.length ≤ R.length
theorem cast_mem {l : Nat} {ls : List Nat} {L : List (Int × List Da)} (h : L.map (·.1) = ls.map fun (x : Nat) => (x : Int)) : L.any (fun e => decide (e.1 = (l : Int))) = decide (l ∈ ls) := by
  have e : L.any (fun e => decide (e.1 = (l : Int))) = (L.map (·.1)).any fun z => decide (z = (l : Int)) := by rw [List.any_map]; rfl
  rw [e, h, List.any_map]
  by_cases hm : l ∈ ls
  · rw [decide_eq_true hm, List.any_eq_true]
    exact ⟨l, hm, decide_eq_true rfl⟩
  · rw [decide_eq_false hm, List.any_eq_false]
    intro x hx z
    have := of_decide_eq_true (p := (x : Int) = (l : Int)) z
    have : x = l := by omega
    exact hm (this ▸ hx)
theorem gl_step {L : List (Int × List Da)} {ls : List Nat} {R : List (List Nat)} {r : List Nat} (G : GL L ls R) (hr : r ≠ []) : ∃ ls', GL (addG L ((dn r).length : Nat) (.list (dn r))) ls' (R ++ [r]) := by
  have hl := List.length_pos_iff.mpr hr
  rw [dn_len]
  unfold addG
  rw [cast_mem G.ks]
  have sums : ((R ++ [r]).map List.length).sum = (R.map List.length).sum + r.length := by simp
  by_cases hm : r.length ∈ ls
  · rw [decide_eq_true hm, if_pos rfl]
    refine ⟨ls, ?_, fun r' h => ?_, by rw [sums]; have := G.sum; omega, G.pos, by rw [List.length_append]; have := G.len; omega, fun e he => ?_⟩
    · rw [List.map_map, ← G.ks]
      refine List.map_congr_left fun e _ => ?_
      show (if e.1 = ((r.length : Nat) : Int) then (e.1, e.2 ++ [PyData.list (dn r)]) else e).1 = e.1
      split <;> rfl
    · rcases List.mem_append.mp h with h | h
      · exact G.all r' h
      · rw [List.mem_singleton] at h
        subst h
        exact hm
    · obtain ⟨e0, he0, rfl⟩ := List.mem_map.mp he
      have := G.vals e0 he0
      rw [List.length_append, List.length_singleton]
      split
      · show (e0.2 ++ [PyData.list (dn r)]).length ≤ _
        rw [List.length_append, List.length_singleton]
        omega
      · omega
  · rw [decide_eq_false hm, if_neg Bool.false_ne_true]
    refine ⟨ls ++ [r.length], ?_, fun r' h => ?_, ?_, fun l h => ?_, ?_, fun e he => ?_⟩
    · rw [List.map_append, List.map_append, G.ks]
      rfl
    · rcases List.mem_append.mp h with h | h
      · exact List.mem_append_left _ (G.all r' h)
      · rw [List.mem_singleton] at h
        subst h
        exact List.mem_append_right _ (List.mem_singleton.mpr rfl)
    · rw [sums, List.sum_append]
      have := G.sum
      show ls.sum + (r.length + 0) ≤ _
      omega
    · rcases List.mem_append.mp h with h | h
      · exact G.pos l h
      · rw [List.mem_singleton] at h
        omega
    · rw [List.length_append, List.length_append, List.length_singleton, List.length_singleton]
      have := G.len
      omega
    · rw [List.length_append, List.length_singleton]
      rcases List.mem_append.mp he with h | h
      · have := G.vals e h
        omega
      · rw [List.mem_singleton] at h
        subst h
        show 1 ≤ _
        omega
theorem grp_ok : ∀ {R2 R1 : List (List Nat)} {L : List (Int × List Da)} {ls : List Nat}, GL L ls R1 → (∀ r ∈ R2, r ≠ []) → R1.length + R2.length ≤ 1000 → ∃ L' ls', grp (lrs R2) L = some L' ∧ GL L' ls' (R1 ++ R2)
  | [], R1, L, ls, G, _, _ => ⟨L, ls, rfl, by rw [List.append_nil]; exact G⟩
  | r :: R2, R1, L, ls, G, h, hl => by
    rw [List.length_cons] at hl
    obtain ⟨ls1, G1⟩ := gl_step G (h r List.mem_cons_self)
    obtain ⟨L', ls', h1, h2⟩ := grp_ok (R2 := R2) G1 (fun r' m => h r' (List.mem_cons_of_mem _ m)) (by rw [List.length_append, List.length_singleton]; omega)
    refine ⟨L', ls', ?_, by rw [List.append_assoc] at h2; exact h2⟩
    show (if L.length < sizeLine ∧ L.all (fun e => decide (e.2.length < sizeLine)) = true then grp (lrs R2) (addG L ((dn r).length : Nat) (.list (dn r))) else none) = some L'
    have hL : L.length = ls.length := by have := congrArg List.length G.ks; rwa [List.length_map, List.length_map] at this
    rw [if_pos ⟨by rw [sz, hL]; have := G.len; omega, List.all_eq_true.mpr fun e he => decide_eq_true (by rw [sz]; have := G.vals e he; omega)⟩]
    exact h1
def cnt (L : List (Int × List Da)) (l : Int) : Int := match valD (grpK L) (.inl l) with
  | some (.list ys) => (ys.length : Int)
  | _ => 0
theorem val_grp : ∀ {L : List (Int × List Da)} {l : Int}, l ∈ L.map (·.1) → ∃ ys, valD (grpK L) (.inl l) = some (.list ys)
  | e :: L, l, h => by
    show ∃ ys, (if (Sum.inl e.1 : Key) = .inl l then some (PyData.list e.2) else valD (grpK L) (.inl l)) = some (.list ys)
    by_cases q : (Sum.inl e.1 : Key) = .inl l
    · exact ⟨e.2, if_pos q⟩
    · rw [if_neg q]
      rw [List.map_cons] at h
      rcases List.mem_cons.mp h with h | h
      · exact absurd (by rw [h]) q
      · exact val_grp h
theorem dk_grp : ∀ {L : List (Int × List Da)}, dkeys (kdK (grpK L)) = some (L.map (·.1))
  | [] => rfl
  | e :: L => by
    show dkeys ((.int e.1, .list e.2) :: kdK (grpK L)) = _
    unfold dkeys
    rw [dk_grp (L := L)]
    rfl
theorem counts_ok {p : List Nat} {n : Nat} (hp : Perm0 p n) (h1 : 1 ≤ n) (hn : n ≤ 32) : ∃ (ks : List Nat) (c : Nat → Int), fn_3 [.val (.tuple (dn p))] = .ok (.val (.tuple (ks.map fun (l : Nat) => PyData.tuple [.int (l : Int), .int (c l)]))) none ∧
    ∃ R, RingsOk p R ∧ (∀ x, x ∈ R.flatten ↔ x < n) ∧ (∀ r ∈ R, r.length ∈ ks) ∧ ks.sum ≤ n ∧ ∀ l ∈ ks, 1 ≤ l := by
  have hpl := hp.len
  obtain ⟨R, hR, hok, hcov⟩ := rings_ok hp (by omega)
  have hfl : R.flatten.length ≤ n := nd_len hok.nd fun x hx => (hcov x).mp hx
  have hRl : R.length ≤ R.flatten.length := flat_len fun r hr => (hok.ok r hr).1
  obtain ⟨L, ls, hL, G⟩ := grp_ok (R2 := R) (R1 := []) (L := []) (ls := []) ⟨rfl, (fun r h => nomatch h), Nat.le_refl _, (fun l h => nomatch h), Nat.le_refl _, (fun e h => nomatch h)⟩ (fun r hr => (hok.ok r hr).1) (by rw [List.length_nil]; omega)
  rw [List.nil_append] at G
  have k2 : WF (fn_2 [.val (.tuple (dn p))]) (fun r io => r = .odk (grpK L) ∧ io = none) := by
    refine body_P rfl rfl ?_
    show WP (ms_2 [.val (.tuple (dn p)), .no, .no]) _
    simp only [ms_2, z_And, z_AndV, z_Args, z_Args0, z_Asg, z_BV, z_Bin, z_Break, z_C, z_CallB, z_Chain, z_Comp, z_Cont, z_DGet, z_DIn, z_DPut, z_Enum, z_Expr, z_For, z_Group, z_If, z_It, z_List, z_Meth, z_NewK, z_NewT, z_Next, z_Nm, z_NoP, z_Not, z_Op, z_Or, z_OrV, z_P, z_Par, z_Pass, z_Pk, z_Read, z_Ret, z_RetN, z_Rg1, z_Rg2, z_SIf, z_Seq, z_Sl, z_Sub, z_TB, z_Take, z_Tru, z_Tu, z_Tup, z_Turn, z_Un, z_Var, z_abs, z_agK, z_andF, z_andT, z_andVF, z_andVT, z_apI, z_apO, z_app1, z_app2, z_appA, z_ar1, z_ar2, z_arK, z_arK2, z_argP, z_argS, z_argV, z_args, z_args0, z_asK, z_asK2, z_atI, z_atK, z_atO, z_atV, z_augE, z_augF, z_binK, z_binK2, z_bvK, z_callE, z_cbK, z_chK, z_chK2, z_chain2, z_chnF, z_chnT, z_clB, z_clK, z_coK, z_dgK, z_dgK2, z_dget, z_diK, z_diK2, z_din, z_dispL, z_dispT, z_dvget, z_exK, z_exc, z_go, z_go0, z_goK, z_gotD, z_gotIn, z_grK, z_ifF, z_ifT, z_ifVF, z_ifVT, z_int, z_intB, z_io0, z_ioP, z_ioS, z_ioV, z_isL, z_isO, z_itE, z_itL, z_itS, z_itT, z_kpO, z_kpV, z_lenL, z_lenT, z_liK, z_lisL, z_lisT, z_lkK, z_look0, z_look1, z_lookD, z_lookDK, z_lookP, z_lookV, z_mCall, z_meB, z_meI, z_meK, z_meO, z_meR, z_no, z_notK, z_npK, z_npO, z_npS, z_npV, z_ok, z_one0, z_oneP, z_oneS, z_oneV, z_opO, z_opP, z_opS, z_opV, z_orF, z_orT, z_orVF, z_orVT, z_pI, z_paB, z_paK, z_paK2, z_pkK, z_puB, z_puK, z_putI, z_putM, z_putO, z_putV, z_r1K, z_r2K, z_r2K2, z_rdB, z_rdK, z_rdK2, z_rdM, z_reK, z_ret, z_retI, z_retN, z_rg1, z_rg2, z_rgI1, z_rgI2, z_rtV, z_saI, z_saO, z_seqB, z_seqC, z_seqN, z_seqR, z_sl, z_slK, z_slK2, z_slK3, z_slice, z_suB, z_suK, z_tK, z_tO, z_tV, z_tbK, z_tnK, z_truB, z_truI, z_truK, z_truL, z_truN, z_truT, z_tst, z_tuK, z_tupL, z_tupT, z_unK, z_vO, z_vS, z_vV, z_vals, z_vals0, z_wpB, z_wpO, z_yes, List.set_cons_zero, List.set_cons_succ, List.getElem?_cons_zero, List.getElem?_cons_succ, List.length_cons, List.length_nil, Bool.not_true, Bool.not_false, if_true, if_false, Bool.false_eq_true, reduceCtorEq, and_self, and_true, true_and, y_addI, y_sub, y_lt, y_gt, y_le, y_ge, y_neg, y_eqI, y_neI, Nat.reduceAdd, Nat.reduceLT, Nat.reduceLeDiff, decide_eq_true_eq, sz, Nat.zero_le, dn_len, List.isEmpty_cons, List.isEmpty_nil, List.cons_append, List.nil_append, List.all_cons, List.all_nil, Bool.and_true, Bool.true_and, Bool.and_self, hR, hL, grpM]
    simp only [z_And, z_AndV, z_Args, z_Args0, z_Asg, z_BV, z_Bin, z_Break, z_C, z_CallB, z_Chain, z_Comp, z_Cont, z_DGet, z_DIn, z_DPut, z_Enum, z_Expr, z_For, z_Group, z_If, z_It, z_List, z_Meth, z_NewK, z_NewT, z_Next, z_Nm, z_NoP, z_Not, z_Op, z_Or, z_OrV, z_P, z_Par, z_Pass, z_Pk, z_Read, z_Ret, z_RetN, z_Rg1, z_Rg2, z_SIf, z_Seq, z_Sl, z_Sub, z_TB, z_Take, z_Tru, z_Tu, z_Tup, z_Turn, z_Un, z_Var, z_abs, z_agK, z_andF, z_andT, z_andVF, z_andVT, z_apI, z_apO, z_app1, z_app2, z_appA, z_ar1, z_ar2, z_arK, z_arK2, z_argP, z_argS, z_argV, z_args, z_args0, z_asK, z_asK2, z_atI, z_atK, z_atO, z_atV, z_augE, z_augF, z_binK, z_binK2, z_bvK, z_callE, z_cbK, z_chK, z_chK2, z_chain2, z_chnF, z_chnT, z_clB, z_clK, z_coK, z_dgK, z_dgK2, z_dget, z_diK, z_diK2, z_din, z_dispL, z_dispT, z_dvget, z_exK, z_exc, z_go, z_go0, z_goK, z_gotD, z_gotIn, z_grK, z_ifF, z_ifT, z_ifVF, z_ifVT, z_int, z_intB, z_io0, z_ioP, z_ioS, z_ioV, z_isL, z_isO, z_itE, z_itL, z_itS, z_itT, z_kpO, z_kpV, z_lenL, z_lenT, z_liK, z_lisL, z_lisT, z_lkK, z_look0, z_look1, z_lookD, z_lookDK, z_lookP, z_lookV, z_mCall, z_meB, z_meI, z_meK, z_meO, z_meR, z_no, z_notK, z_npK, z_npO, z_npS, z_npV, z_ok, z_one0, z_oneP, z_oneS, z_oneV, z_opO, z_opP, z_opS, z_opV, z_orF, z_orT, z_orVF, z_orVT, z_pI, z_paB, z_paK, z_paK2, z_pkK, z_puB, z_puK, z_putI, z_putM, z_putO, z_putV, z_r1K, z_r2K, z_r2K2, z_rdB, z_rdK, z_rdK2, z_rdM, z_reK, z_ret, z_retI, z_retN, z_rg1, z_rg2, z_rgI1, z_rgI2, z_rtV, z_saI, z_saO, z_seqB, z_seqC, z_seqN, z_seqR, z_sl, z_slK, z_slK2, z_slK3, z_slice, z_suB, z_suK, z_tK, z_tO, z_tV, z_tbK, z_tnK, z_truB, z_truI, z_truK, z_truL, z_truN, z_truT, z_tst, z_tuK, z_tupL, z_tupT, z_unK, z_vO, z_vS, z_vV, z_vals, z_vals0, z_wpB, z_wpO, z_yes, List.set_cons_zero, List.set_cons_succ, List.getElem?_cons_zero, List.getElem?_cons_succ, List.length_cons, List.length_nil, Bool.not_true, Bool.not_false, if_true, if_false, Bool.false_eq_true, reduceCtorEq, and_self, and_true, true_and, y_addI, y_sub, y_lt, y_gt, y_le, y_ge, y_neg, y_eqI, y_neI, Nat.reduceAdd, Nat.reduceLT, Nat.reduceLeDiff, decide_eq_true_eq, sz, Nat.zero_le, dn_len, List.isEmpty_cons, List.isEmpty_nil, List.cons_append, List.nil_append, List.all_cons, List.all_nil, Bool.and_true, Bool.true_and, Bool.and_self, ne_eq, Nat.reduceEqDiff, not_false_eq_true]
    exact ⟨rfl, rfl⟩
  obtain ⟨r, io, h2, rfl, rfl⟩ := ok_of_P k2
  have hsum : (R.map List.length).sum = R.flatten.length := by rw [List.length_flatten]
  have hne : ls ≠ [] := fun z => by
    obtain ⟨r, hr, _⟩ := List.mem_flatten.mp ((hcov 0).mpr (by omega))
    have := G.all r hr
    rw [z] at this
    cases this
  have hlen : ls.length < 64 := by have := G.len; omega
  let ks := (isort (ls.map fun (x : Nat) => (x : Int))).map Int.toNat
  have pm := isort_perm (ls.map fun (x : Nat) => (x : Int))
  have eks : isort (ls.map fun (x : Nat) => (x : Int)) = ks.map fun (x : Nat) => (x : Int) := by
    show _ = ((isort (ls.map fun (x : Nat) => (x : Int))).map Int.toNat).map fun (x : Nat) => (x : Int)
    rw [List.map_map]
    refine (List.map_id' _).symm.trans (List.map_congr_left fun z hz => ?_)
    obtain ⟨x, _, rfl⟩ := List.mem_map.mp (pm.mem_iff.mp hz)
    rfl
  have pk : ks.Perm ls := by
    have := pm.map Int.toNat
    rw [List.map_map] at this
    refine this.trans (List.Perm.of_eq ?_)
    exact (List.map_congr_left (g := id) fun x _ => Int.toNat_natCast x).trans (List.map_id _)
  have srt : fSorted (.dict (kdK (grpK L))) = some (.own (di (isort (ls.map fun (x : Nat) => (x : Int))))) := by
    show (none : Option Sl).or ((none : Option Sl).or (sortK (dkeys (kdK (grpK L))))) = _
    rw [dk_grp, G.ks]
    show (none : Option Sl).or ((none : Option Sl).or (if (ls.map fun (x : Nat) => (x : Int)).length < 64 ∧ (ls.map fun (x : Nat) => (x : Int)) ≠ [] then _ else none)) = _
    rw [if_pos ⟨by rw [List.length_map]; exact hlen, fun z => hne (List.map_eq_nil_iff.mp z)⟩]
    rfl
  have hc := comp_all (ct := .one 2) (t := yesT) (m := mTup (mArgs [(mVar 2), (mCallB (ar1 fLen) (mArgs [(mDGet (mPk 1) (mPk 2))]))])) (vs := [2]) (env := [.val (.tuple (dn p)), .odk (grpK L), .no]) rfl
    (fun d => match d with
      | .int l => .tuple [.int l, .int (cnt L l)]
      | d => d) (di (isort (ls.map fun (x : Nat) => (x : Int)))) [] (by
        unfold di
        rw [List.length_nil, List.length_map, pm.length_eq, List.length_map, sz]; omega) fun d hd => by
      obtain ⟨l, hl, rfl⟩ := List.mem_map.mp hd
      obtain ⟨ys, hy⟩ := val_grp (L := L) (l := l) (by rw [G.ks]; exact pm.mem_iff.mp hl)
      have hcn : cnt L l = (ys.length : Int) := by unfold cnt; rw [hy]
      refine ⟨[.val (.tuple (dn p)), .odk (grpK L), .val (.int l)], [.val (.tuple (dn p)), .odk (grpK L), .val (.int l)], [.val (.tuple (dn p)), .odk (grpK L), .val (.int l)], rfl, rfl, ?_, rfl⟩
      show mOp _ _ = .ok (.val (.tuple [.int l, .int (cnt L l)])) _
      rw [hcn]
      simp only [z_And, z_AndV, z_Args, z_Args0, z_Asg, z_BV, z_Bin, z_Break, z_C, z_CallB, z_Chain, z_Comp, z_Cont, z_DGet, z_DIn, z_DPut, z_Enum, z_Expr, z_For, z_Group, z_If, z_It, z_List, z_Meth, z_NewK, z_NewT, z_Next, z_Nm, z_NoP, z_Not, z_Op, z_Or, z_OrV, z_P, z_Par, z_Pass, z_Pk, z_Read, z_Ret, z_RetN, z_Rg1, z_Rg2, z_SIf, z_Seq, z_Sl, z_Sub, z_TB, z_Take, z_Tru, z_Tu, z_Tup, z_Turn, z_Un, z_Var, z_abs, z_agK, z_andF, z_andT, z_andVF, z_andVT, z_apI, z_apO, z_app1, z_app2, z_appA, z_ar1, z_ar2, z_arK, z_arK2, z_argP, z_argS, z_argV, z_args, z_args0, z_asK, z_asK2, z_atI, z_atK, z_atO, z_atV, z_augE, z_augF, z_binK, z_binK2, z_bvK, z_callE, z_cbK, z_chK, z_chK2, z_chain2, z_chnF, z_chnT, z_clB, z_clK, z_coK, z_dgK, z_dgK2, z_dget, z_diK, z_diK2, z_din, z_dispL, z_dispT, z_dvget, z_exK, z_exc, z_go, z_go0, z_goK, z_gotD, z_gotIn, z_grK, z_ifF, z_ifT, z_ifVF, z_ifVT, z_int, z_intB, z_io0, z_ioP, z_ioS, z_ioV, z_isL, z_isO, z_itE, z_itL, z_itS, z_itT, z_kpO, z_kpV, z_lenL, z_lenT, z_liK, z_lisL, z_lisT, z_lkK, z_look0, z_look1, z_lookD, z_lookDK, z_lookP, z_lookV, z_mCall, z_meB, z_meI, z_meK, z_meO, z_meR, z_no, z_notK, z_npK, z_npO, z_npS, z_npV, z_ok, z_one0, z_oneP, z_oneS, z_oneV, z_opO, z_opP, z_opS, z_opV, z_orF, z_orT, z_orVF, z_orVT, z_pI, z_paB, z_paK, z_paK2, z_pkK, z_puB, z_puK, z_putI, z_putM, z_putO, z_putV, z_r1K, z_r2K, z_r2K2, z_rdB, z_rdK, z_rdK2, z_rdM, z_reK, z_ret, z_retI, z_retN, z_rg1, z_rg2, z_rgI1, z_rgI2, z_rtV, z_saI, z_saO, z_seqB, z_seqC, z_seqN, z_seqR, z_sl, z_slK, z_slK2, z_slK3, z_slice, z_suB, z_suK, z_tK, z_tO, z_tV, z_tbK, z_tnK, z_truB, z_truI, z_truK, z_truL, z_truN, z_truT, z_tst, z_tuK, z_tupL, z_tupT, z_unK, z_vO, z_vS, z_vV, z_vals, z_vals0, z_wpB, z_wpO, z_yes, List.set_cons_zero, List.set_cons_succ, List.getElem?_cons_zero, List.getElem?_cons_succ, List.length_cons, List.length_nil, Bool.not_true, Bool.not_false, if_true, if_false, Bool.false_eq_true, reduceCtorEq, and_self, and_true, true_and, y_addI, y_sub, y_lt, y_gt, y_le, y_ge, y_neg, y_eqI, y_neI, Nat.reduceAdd, Nat.reduceLT, Nat.reduceLeDiff, decide_eq_true_eq, sz, Nat.zero_le, dn_len, List.isEmpty_cons, List.isEmpty_nil, List.cons_append, List.nil_append, List.all_cons, List.all_nil, Bool.and_true, Bool.true_and, Bool.and_self, hy]
  rw [List.nil_append] at hc
  have k3 : WF (fn_3 [.val (.tuple (dn p))]) (fun r io => r = .val (.tuple ((di (isort (ls.map fun (x : Nat) => (x : Int)))).map fun d => match d with
      | .int l => .tuple [.int l, .int (cnt L l)]
      | d => d)) ∧ io = none) := by
    refine body_P rfl rfl ?_
    show WP (ms_3 [.val (.tuple (dn p)), .no, .no]) _
    simp only [ms_3, z_And, z_AndV, z_Args, z_Args0, z_Asg, z_BV, z_Bin, z_Break, z_C, z_CallB, z_Chain, z_Comp, z_Cont, z_DGet, z_DIn, z_DPut, z_Enum, z_Expr, z_For, z_Group, z_If, z_It, z_List, z_Meth, z_NewK, z_NewT, z_Next, z_Nm, z_NoP, z_Not, z_Op, z_Or, z_OrV, z_P, z_Par, z_Pass, z_Pk, z_Read, z_Ret, z_RetN, z_Rg1, z_Rg2, z_SIf, z_Seq, z_Sl, z_Sub, z_TB, z_Take, z_Tru, z_Tu, z_Tup, z_Turn, z_Un, z_Var, z_abs, z_agK, z_andF, z_andT, z_andVF, z_andVT, z_apI, z_apO, z_app1, z_app2, z_appA, z_ar1, z_ar2, z_arK, z_arK2, z_argP, z_argS, z_argV, z_args, z_args0, z_asK, z_asK2, z_atI, z_atK, z_atO, z_atV, z_augE, z_augF, z_binK, z_binK2, z_bvK, z_callE, z_cbK, z_chK, z_chK2, z_chain2, z_chnF, z_chnT, z_clB, z_clK, z_coK, z_dgK, z_dgK2, z_dget, z_diK, z_diK2, z_din, z_dispL, z_dispT, z_dvget, z_exK, z_exc, z_go, z_go0, z_goK, z_gotD, z_gotIn, z_grK, z_ifF, z_ifT, z_ifVF, z_ifVT, z_int, z_intB, z_io0, z_ioP, z_ioS, z_ioV, z_isL, z_isO, z_itE, z_itL, z_itS, z_itT, z_kpO, z_kpV, z_lenL, z_lenT, z_liK, z_lisL, z_lisT, z_lkK, z_look0, z_look1, z_lookD, z_lookDK, z_lookP, z_lookV, z_mCall, z_meB, z_meI, z_meK, z_meO, z_meR, z_no, z_notK, z_npK, z_npO, z_npS, z_npV, z_ok, z_one0, z_oneP, z_oneS, z_oneV, z_opO, z_opP, z_opS, z_opV, z_orF, z_orT, z_orVF, z_orVT, z_pI, z_paB, z_paK, z_paK2, z_pkK, z_puB, z_puK, z_putI, z_putM, z_putO, z_putV, z_r1K, z_r2K, z_r2K2, z_rdB, z_rdK, z_rdK2, z_rdM, z_reK, z_ret, z_retI, z_retN, z_rg1, z_rg2, z_rgI1, z_rgI2, z_rtV, z_saI, z_saO, z_seqB, z_seqC, z_seqN, z_seqR, z_sl, z_slK, z_slK2, z_slK3, z_slice, z_suB, z_suK, z_tK, z_tO, z_tV, z_tbK, z_tnK, z_truB, z_truI, z_truK, z_truL, z_truN, z_truT, z_tst, z_tuK, z_tupL, z_tupT, z_unK, z_vO, z_vS, z_vV, z_vals, z_vals0, z_wpB, z_wpO, z_yes, List.set_cons_zero, List.set_cons_succ, List.getElem?_cons_zero, List.getElem?_cons_succ, List.length_cons, List.length_nil, Bool.not_true, Bool.not_false, if_true, if_false, Bool.false_eq_true, reduceCtorEq, and_self, and_true, true_and, y_addI, y_sub, y_lt, y_gt, y_le, y_ge, y_neg, y_eqI, y_neI, Nat.reduceAdd, Nat.reduceLT, Nat.reduceLeDiff, decide_eq_true_eq, sz, Nat.zero_le, dn_len, List.isEmpty_cons, List.isEmpty_nil, List.cons_append, List.nil_append, List.all_cons, List.all_nil, Bool.and_true, Bool.true_and, Bool.and_self, h2, srt, hc]
    exact ⟨rfl, rfl⟩
  obtain ⟨r, io, h3, rfl, rfl⟩ := ok_of_P k3
  refine ⟨ks, fun l => cnt L (l : Int), ?_, R, hok, hcov, fun r hr => pk.mem_iff.mpr (G.all r hr), ?_, fun l hl => G.pos l (pk.mem_iff.mp hl)⟩
  · rw [h3, eks]
    unfold di
    rw [List.map_map, List.map_map]
    rfl
  · rw [pk.sum_nat]
    have := G.sum
    omega
end VP
namespace VP
open PySem VL L2
theorem gcd_ok {x y : Nat} (hy : y ≤ 1000) : fn_10 [.val (.int (x : Int)), .val (.int (y : Int))] = .ok (.val (.int ((Nat.gcd x y : Nat) : Int))) none := by
  have key : WF (fn_10 [.val (.int (x : Int)), .val (.int (y : Int))]) (fun r io => r = .val (.int ((Nat.gcd x y : Nat) : Int)) ∧ io = none) := by
    refine body_P rfl rfl ?_
    show WP (ms_10 [.val (.int (x : Int)), .val (.int (y : Int))]) _
    simp only [ms_10, z_And, z_AndV, z_Args, z_Args0, z_Asg, z_BV, z_Bin, z_Break, z_C, z_CallB, z_Chain, z_Comp, z_Cont, z_DGet, z_DIn, z_DPut, z_Enum, z_Expr, z_For, z_Group, z_If, z_It, z_List, z_Meth, z_NewK, z_NewT, z_Next, z_Nm, z_NoP, z_Not, z_Op, z_Or, z_OrV, z_P, z_Par, z_Pass, z_Pk, z_Read, z_Ret, z_RetN, z_Rg1, z_Rg2, z_SIf, z_Seq, z_Sl, z_Sub, z_TB, z_Take, z_Tru, z_Tu, z_Tup, z_Turn, z_Un, z_Var, z_abs, z_agK, z_andF, z_andT, z_andVF, z_andVT, z_apI, z_apO, z_app1, z_app2, z_appA, z_ar1, z_ar2, z_arK, z_arK2, z_argP, z_argS, z_argV, z_args, z_args0, z_asK, z_asK2, z_atI, z_atK, z_atO, z_atV, z_augE, z_augF, z_binK, z_binK2, z_bvK, z_callE, z_cbK, z_chK, z_chK2, z_chain2, z_chnF, z_chnT, z_clB, z_clK, z_coK, z_dgK, z_dgK2, z_dget, z_diK, z_diK2, z_din, z_dispL, z_dispT, z_dvget, z_exK, z_exc, z_go, z_go0, z_goK, z_gotD, z_gotIn, z_grK, z_ifF, z_ifT, z_ifVF, z_ifVT, z_int, z_intB, z_io0, z_ioP, z_ioS, z_ioV, z_isL, z_isO, z_itE, z_itL, z_itS, z_itT, z_kpO, z_kpV, z_lenL, z_lenT, z_liK, z_lisL, z_lisT, z_lkK, z_look0, z_look1, z_lookD, z_lookDK, z_lookP, z_lookV, z_mCall, z_meB, z_meI, z_meK, z_meO, z_meR, z_no, z_notK, z_npK, z_npO, z_npS, z_npV, z_ok, z_one0, z_oneP, z_oneS, z_oneV, z_opO, z_opP, z_opS, z_opV, z_orF, z_orT, z_orVF, z_orVT, z_pI, z_paB, z_paK, z_paK2, z_pkK, z_puB, z_puK, z_putI, z_putM, z_putO, z_putV, z_r1K, z_r2K, z_r2K2, z_rdB, z_rdK, z_rdK2, z_rdM, z_reK, z_ret, z_retI, z_retN, z_rg1, z_rg2, z_rgI1, z_rgI2, z_rtV, z_saI, z_saO, z_seqB, z_seqC, z_seqN, z_seqR, z_sl, z_slK, z_slK2, z_slK3, z_slice, z_suB, z_suK, z_tK, z_tO, z_tV, z_tbK, z_tnK, z_truB, z_truI, z_truK, z_truL, z_truN, z_truT, z_tst, z_tuK, z_tupL, z_tupT, z_unK, z_vO, z_vS, z_vV, z_vals, z_vals0, z_wpB, z_wpO, z_yes, List.set_cons_zero, List.set_cons_succ, List.getElem?_cons_zero, List.getElem?_cons_succ, List.length_cons, List.length_nil, Bool.not_true, Bool.not_false, if_true, if_false, Bool.false_eq_true, reduceCtorEq, and_self, and_true, true_and, y_addI, y_sub, y_lt, y_gt, y_le, y_ge, y_neg, y_eqI, y_neI, Nat.reduceAdd, Nat.reduceLT, Nat.reduceLeDiff, decide_eq_true_eq, sz, Nat.zero_le, dn_len, List.isEmpty_cons, List.isEmpty_nil, List.cons_append, List.nil_append, List.all_cons, List.all_nil, Bool.and_true, Bool.true_and, Bool.and_self]
    refine while_P (fun m e => ∃ a b : Nat, e = [.val (.int (a : Int)), .val (.int (b : Int))] ∧ m = b ∧ Nat.gcd a b = Nat.gcd x y) (m := y) (by omega) ⟨x, y, rfl, rfl, rfl⟩ fun m e h => ?_
    obtain ⟨a, b, rfl, rfl, hg⟩ := h
    refine ⟨decide ((0 : Int) < (m : Int)), _, by simp only [z_And, z_AndV, z_Args, z_Args0, z_Asg, z_BV, z_Bin, z_Break, z_C, z_CallB, z_Chain, z_Comp, z_Cont, z_DGet, z_DIn, z_DPut, z_Enum, z_Expr, z_For, z_Group, z_If, z_It, z_List, z_Meth, z_NewK, z_NewT, z_Next, z_Nm, z_NoP, z_Not, z_Op, z_Or, z_OrV, z_P, z_Par, z_Pass, z_Pk, z_Read, z_Ret, z_RetN, z_Rg1, z_Rg2, z_SIf, z_Seq, z_Sl, z_Sub, z_TB, z_Take, z_Tru, z_Tu, z_Tup, z_Turn, z_Un, z_Var, z_abs, z_agK, z_andF, z_andT, z_andVF, z_andVT, z_apI, z_apO, z_app1, z_app2, z_appA, z_ar1, z_ar2, z_arK, z_arK2, z_argP, z_argS, z_argV, z_args, z_args0, z_asK, z_asK2, z_atI, z_atK, z_atO, z_atV, z_augE, z_augF, z_binK, z_binK2, z_bvK, z_callE, z_cbK, z_chK, z_chK2, z_chain2, z_chnF, z_chnT, z_clB, z_clK, z_coK, z_dgK, z_dgK2, z_dget, z_diK, z_diK2, z_din, z_dispL, z_dispT, z_dvget, z_exK, z_exc, z_go, z_go0, z_goK, z_gotD, z_gotIn, z_grK, z_ifF, z_ifT, z_ifVF, z_ifVT, z_int, z_intB, z_io0, z_ioP, z_ioS, z_ioV, z_isL, z_isO, z_itE, z_itL, z_itS, z_itT, z_kpO, z_kpV, z_lenL, z_lenT, z_liK, z_lisL, z_lisT, z_lkK, z_look0, z_look1, z_lookD, z_lookDK, z_lookP, z_lookV, z_mCall, z_meB, z_meI, z_meK, z_meO, z_meR, z_no, z_notK, z_npK, z_npO, z_npS, z_npV, z_ok, z_one0, z_oneP, z_oneS, z_oneV, z_opO, z_opP, z_opS, z_opV, z_orF, z_orT, z_orVF, z_orVT, z_pI, z_paB, z_paK, z_paK2, z_pkK, z_puB, z_puK, z_putI, z_putM, z_putO, z_putV, z_r1K, z_r2K, z_r2K2, z_rdB, z_rdK, z_rdK2, z_rdM, z_reK, z_ret, z_retI, z_retN, z_rg1, z_rg2, z_rgI1, z_rgI2, z_rtV, z_saI, z_saO, z_seqB, z_seqC, z_seqN, z_seqR, z_sl, z_slK, z_slK2, z_slK3, z_slice, z_suB, z_suK, z_tK, z_tO, z_tV, z_tbK, z_tnK, z_truB, z_truI, z_truK, z_truL, z_truN, z_truT, z_tst, z_tuK, z_tupL, z_tupT, z_unK, z_vO, z_vS, z_vV, z_vals, z_vals0, z_wpB, z_wpO, z_yes, List.set_cons_zero, List.set_cons_succ, List.getElem?_cons_zero, List.getElem?_cons_succ, List.length_cons, List.length_nil, Bool.not_true, Bool.not_false, if_true, if_false, Bool.false_eq_true, reduceCtorEq, and_self, and_true, true_and, y_addI, y_sub, y_lt, y_gt, y_le, y_ge, y_neg, y_eqI, y_neI, Nat.reduceAdd, Nat.reduceLT, Nat.reduceLeDiff, decide_eq_true_eq, sz, Nat.zero_le, dn_len, List.isEmpty_cons, List.isEmpty_nil, List.cons_append, List.nil_append, List.all_cons, List.all_nil, Bool.and_true, Bool.true_and, Bool.and_self]; rfl, fun hc => ?_, fun hc => ?_⟩
    · have hb : (0 : Int) < (m : Int) := of_decide_eq_true hc
      have e1 : (a : Int) % (m : Int) = ((a % m : Nat) : Int) := by rw [Int.natCast_emod]
      simp only [z_And, z_AndV, z_Args, z_Args0, z_Asg, z_BV, z_Bin, z_Break, z_C, z_CallB, z_Chain, z_Comp, z_Cont, z_DGet, z_DIn, z_DPut, z_Enum, z_Expr, z_For, z_Group, z_If, z_It, z_List, z_Meth, z_NewK, z_NewT, z_Next, z_Nm, z_NoP, z_Not, z_Op, z_Or, z_OrV, z_P, z_Par, z_Pass, z_Pk, z_Read, z_Ret, z_RetN, z_Rg1, z_Rg2, z_SIf, z_Seq, z_Sl, z_Sub, z_TB, z_Take, z_Tru, z_Tu, z_Tup, z_Turn, z_Un, z_Var, z_abs, z_agK, z_andF, z_andT, z_andVF, z_andVT, z_apI, z_apO, z_app1, z_app2, z_appA, z_ar1, z_ar2, z_arK, z_arK2, z_argP, z_argS, z_argV, z_args, z_args0, z_asK, z_asK2, z_atI, z_atK, z_atO, z_atV, z_augE, z_augF, z_binK, z_binK2, z_bvK, z_callE, z_cbK, z_chK, z_chK2, z_chain2, z_chnF, z_chnT, z_clB, z_clK, z_coK, z_dgK, z_dgK2, z_dget, z_diK, z_diK2, z_din, z_dispL, z_dispT, z_dvget, z_exK, z_exc, z_go, z_go0, z_goK, z_gotD, z_gotIn, z_grK, z_ifF, z_ifT, z_ifVF, z_ifVT, z_int, z_intB, z_io0, z_ioP, z_ioS, z_ioV, z_isL, z_isO, z_itE, z_itL, z_itS, z_itT, z_kpO, z_kpV, z_lenL, z_lenT, z_liK, z_lisL, z_lisT, z_lkK, z_look0, z_look1, z_lookD, z_lookDK, z_lookP, z_lookV, z_mCall, z_meB, z_meI, z_meK, z_meO, z_meR, z_no, z_notK, z_npK, z_npO, z_npS, z_npV, z_ok, z_one0, z_oneP, z_oneS, z_oneV, z_opO, z_opP, z_opS, z_opV, z_orF, z_orT, z_orVF, z_orVT, z_pI, z_paB, z_paK, z_paK2, z_pkK, z_puB, z_puK, z_putI, z_putM, z_putO, z_putV, z_r1K, z_r2K, z_r2K2, z_rdB, z_rdK, z_rdK2, z_rdM, z_reK, z_ret, z_retI, z_retN, z_rg1, z_rg2, z_rgI1, z_rgI2, z_rtV, z_saI, z_saO, z_seqB, z_seqC, z_seqN, z_seqR, z_sl, z_slK, z_slK2, z_slK3, z_slice, z_suB, z_suK, z_tK, z_tO, z_tV, z_tbK, z_tnK, z_truB, z_truI, z_truK, z_truL, z_truN, z_truT, z_tst, z_tuK, z_tupL, z_tupT, z_unK, z_vO, z_vS, z_vV, z_vals, z_vals0, z_wpB, z_wpO, z_yes, List.set_cons_zero, List.set_cons_succ, List.getElem?_cons_zero, List.getElem?_cons_succ, List.length_cons, List.length_nil, Bool.not_true, Bool.not_false, if_true, if_false, Bool.false_eq_true, reduceCtorEq, and_self, and_true, true_and, y_addI, y_sub, y_lt, y_gt, y_le, y_ge, y_neg, y_eqI, y_neI, Nat.reduceAdd, Nat.reduceLT, Nat.reduceLeDiff, decide_eq_true_eq, sz, Nat.zero_le, dn_len, List.isEmpty_cons, List.isEmpty_nil, List.cons_append, List.nil_append, List.all_cons, List.all_nil, Bool.and_true, Bool.true_and, Bool.and_self, y_mod hb, e1]
      refine ⟨a % m, Nat.mod_lt _ (by omega), m, a % m, rfl, rfl, ?_⟩
      rw [← hg, Nat.gcd_comm a m, Nat.gcd_rec m a, Nat.gcd_comm]
    · have hb : m = 0 := by have := of_decide_eq_false hc; omega
      subst hb
      rw [Nat.gcd_zero_right] at hg
      subst hg
      simp only [z_And, z_AndV, z_Args, z_Args0, z_Asg, z_BV, z_Bin, z_Break, z_C, z_CallB, z_Chain, z_Comp, z_Cont, z_DGet, z_DIn, z_DPut, z_Enum, z_Expr, z_For, z_Group, z_If, z_It, z_List, z_Meth, z_NewK, z_NewT, z_Next, z_Nm, z_NoP, z_Not, z_Op, z_Or, z_OrV, z_P, z_Par, z_Pass, z_Pk, z_Read, z_Ret, z_RetN, z_Rg1, z_Rg2, z_SIf, z_Seq, z_Sl, z_Sub, z_TB, z_Take, z_Tru, z_Tu, z_Tup, z_Turn, z_Un, z_Var, z_abs, z_agK, z_andF, z_andT, z_andVF, z_andVT, z_apI, z_apO, z_app1, z_app2, z_appA, z_ar1, z_ar2, z_arK, z_arK2, z_argP, z_argS, z_argV, z_args, z_args0, z_asK, z_asK2, z_atI, z_atK, z_atO, z_atV, z_augE, z_augF, z_binK, z_binK2, z_bvK, z_callE, z_cbK, z_chK, z_chK2, z_chain2, z_chnF, z_chnT, z_clB, z_clK, z_coK, z_dgK, z_dgK2, z_dget, z_diK, z_diK2, z_din, z_dispL, z_dispT, z_dvget, z_exK, z_exc, z_go, z_go0, z_goK, z_gotD, z_gotIn, z_grK, z_ifF, z_ifT, z_ifVF, z_ifVT, z_int, z_intB, z_io0, z_ioP, z_ioS, z_ioV, z_isL, z_isO, z_itE, z_itL, z_itS, z_itT, z_kpO, z_kpV, z_lenL, z_lenT, z_liK, z_lisL, z_lisT, z_lkK, z_look0, z_look1, z_lookD, z_lookDK, z_lookP, z_lookV, z_mCall, z_meB, z_meI, z_meK, z_meO, z_meR, z_no, z_notK, z_npK, z_npO, z_npS, z_npV, z_ok, z_one0, z_oneP, z_oneS, z_oneV, z_opO, z_opP, z_opS, z_opV, z_orF, z_orT, z_orVF, z_orVT, z_pI, z_paB, z_paK, z_paK2, z_pkK, z_puB, z_puK, z_putI, z_putM, z_putO, z_putV, z_r1K, z_r2K, z_r2K2, z_rdB, z_rdK, z_rdK2, z_rdM, z_reK, z_ret, z_retI, z_retN, z_rg1, z_rg2, z_rgI1, z_rgI2, z_rtV, z_saI, z_saO, z_seqB, z_seqC, z_seqN, z_seqR, z_sl, z_slK, z_slK2, z_slK3, z_slice, z_suB, z_suK, z_tK, z_tO, z_tV, z_tbK, z_tnK, z_truB, z_truI, z_truK, z_truL, z_truN, z_truT, z_tst, z_tuK, z_tupL, z_tupT, z_unK, z_vO, z_vS, z_vV, z_vals, z_vals0, z_wpB, z_wpO, z_yes, List.set_cons_zero, List.set_cons_succ, List.getElem?_cons_zero, List.getElem?_cons_succ, List.length_cons, List.length_nil, Bool.not_true, Bool.not_false, if_true, if_false, Bool.false_eq_true, reduceCtorEq, and_self, and_true, true_and, y_addI, y_sub, y_lt, y_gt, y_le, y_ge, y_neg, y_eqI, y_neI, Nat.reduceAdd, Nat.reduceLT, Nat.reduceLeDiff, decide_eq_true_eq, sz, Nat.zero_le, dn_len, List.isEmpty_cons, List.isEmpty_nil, List.cons_append, List.nil_append, List.all_cons, List.all_nil, Bool.and_true, Bool.true_and, Bool.and_self]
      exact ⟨rfl, rfl⟩
  obtain ⟨r, io, h, rfl, rfl⟩ := ok_of_P key
  exact h
theorem flR {nx : VE → Prop} {Q : Fl → VE → Prop} {r : Sl} {e : VE} : flP nx Q (.rt r) e = Q (.rt r) e := id rfl
theorem le_sum : ∀ {ks : List Nat} {l : Nat}, l ∈ ks → l ≤ ks.sum
  | k :: ks, l, h => by
    rw [List.sum_cons]
    rcases List.mem_cons.mp h with rfl | h
    · omega
    · have := le_sum h
      omega
theorem le_two_pow (l : Nat) : l ≤ 2 ^ l := Nat.le_of_lt Nat.lt_two_pow_self
/-- the bound so far -/
structure Bd (ks : List Nat) (j b : Nat) : Prop where
  pos : 0 < b
  dv : ∀ l ∈ ks.take j, l ∣ b
  le : b ≤ 2 ^ (ks.take j).sum
theorem bd_step {ks : List Nat} {j b l : Nat} (B : Bd ks j b) (h : ks[j]? = some l) (hl : 1 ≤ l) : Bd ks (j + 1) (b * (l / Nat.gcd b l)) := by
  have hg : Nat.gcd b l ∣ l := Nat.gcd_dvd_right b l
  have hgp : 0 < Nat.gcd b l := Nat.gcd_pos_of_pos_right b hl
  have hq : 1 ≤ l / Nat.gcd b l := (Nat.le_div_iff_mul_le hgp).mpr (by rw [Nat.one_mul]; exact Nat.le_of_dvd hl hg)
  have hq2 : l / Nat.gcd b l ≤ l := Nat.div_le_self _ _
  have et := take_succ' h
  refine ⟨Nat.mul_pos B.pos hq, fun l' hl' => ?_, ?_⟩
  · rw [et] at hl'
    rcases List.mem_append.mp hl' with h' | h'
    · exact Nat.dvd_trans (B.dv l' h') (Nat.dvd_mul_right _ _)
    · rw [List.mem_singleton] at h'
      subst h'
      have e : b * (l' / Nat.gcd b l') = Nat.lcm b l' := by rw [Nat.lcm_eq_mul_div, Nat.mul_div_assoc _ hg]
      rw [e]
      exact Nat.dvd_lcm_right b l'
  · rw [et, List.sum_append]
    show _ ≤ 2 ^ ((ks.take j).sum + (l + 0))
    rw [Nat.add_zero, Nat.pow_add]
    exact Nat.mul_le_mul B.le (Nat.le_trans hq2 (le_two_pow l))
structure Least (p q : List Nat) (n : Nat) (v : Da) (b : Nat) : Prop where
  bp : 0 < b
  ble : b ≤ 65536
  per : pw p n b = List.range n
  ans : (∃ k : Nat, k < b ∧ pw p n k = q ∧ (∀ j, j < k → pw p n j ≠ q) ∧ v = .int (k : Int)) ∨ (v = .none ∧ ∀ k, k < b → pw p n k ≠ q)
theorem fMulN {a b : Nat} (h : a < 2 ^ 60) : fMulI (.int (a : Int)) (.int (b : Int)) = some (.val (.int ((a * b : Nat) : Int))) := by
  rw [y_mulI (.inl ⟨by omega, by omega⟩), Int.natCast_mul]
theorem fDivN {a b : Nat} (h0 : 0 < b) (h : b < 1000000) : fFdiv (.int (a : Int)) (.int (b : Int)) = some (.val (.int ((a / b : Nat) : Int))) := by
  rw [y_div ⟨by omega, by omega⟩, Int.natCast_ediv]
theorem least_ok {p q : List Nat} {n : Nat} (hp : Perm0 p n) (h1 : 1 ≤ n) (hn : n ≤ 16) : ∃ v b, fn_9 [.val (.tuple (dn p)), .val (.tuple (dn q))] = .ok (.val v) none ∧ Least p q n v b := by
  obtain ⟨ks, c, h3, R, hok, hcov, hks, hsum, hpos⟩ := counts_ok hp h1 (by omega)
  have key : WF (fn_9 [.val (.tuple (dn p)), .val (.tuple (dn q))]) (fun r io => ∃ v b, r = .val v ∧ io = none ∧ Least p q n v b) := by
    refine body_P rfl rfl ?_
    show WP (ms_9 [.val (.tuple (dn p)), .val (.tuple (dn q)), .no, .no, .no, .no]) _
    simp only [ms_9, z_And, z_AndV, z_Args, z_Args0, z_Asg, z_BV, z_Bin, z_Break, z_C, z_CallB, z_Chain, z_Comp, z_Cont, z_DGet, z_DIn, z_DPut, z_Enum, z_Expr, z_For, z_Group, z_If, z_It, z_List, z_Meth, z_NewK, z_NewT, z_Next, z_Nm, z_NoP, z_Not, z_Op, z_Or, z_OrV, z_P, z_Par, z_Pass, z_Pk, z_Read, z_Ret, z_RetN, z_Rg1, z_Rg2, z_SIf, z_Seq, z_Sl, z_Sub, z_TB, z_Take, z_Tru, z_Tu, z_Tup, z_Turn, z_Un, z_Var, z_abs, z_agK, z_andF, z_andT, z_andVF, z_andVT, z_apI, z_apO, z_app1, z_app2, z_appA, z_ar1, z_ar2, z_arK, z_arK2, z_argP, z_argS, z_argV, z_args, z_args0, z_asK, z_asK2, z_atI, z_atK, z_atO, z_atV, z_augE, z_augF, z_binK, z_binK2, z_bvK, z_callE, z_cbK, z_chK, z_chK2, z_chain2, z_chnF, z_chnT, z_clB, z_clK, z_coK, z_dgK, z_dgK2, z_dget, z_diK, z_diK2, z_din, z_dispL, z_dispT, z_dvget, z_exK, z_exc, z_go, z_go0, z_goK, z_gotD, z_gotIn, z_grK, z_ifF, z_ifT, z_ifVF, z_ifVT, z_int, z_intB, z_io0, z_ioP, z_ioS, z_ioV, z_isL, z_isO, z_itE, z_itL, z_itS, z_itT, z_kpO, z_kpV, z_lenL, z_lenT, z_liK, z_lisL, z_lisT, z_lkK, z_look0, z_look1, z_lookD, z_lookDK, z_lookP, z_lookV, z_mCall, z_meB, z_meI, z_meK, z_meO, z_meR, z_no, z_notK, z_npK, z_npO, z_npS, z_npV, z_ok, z_one0, z_oneP, z_oneS, z_oneV, z_opO, z_opP, z_opS, z_opV, z_orF, z_orT, z_orVF, z_orVT, z_pI, z_paB, z_paK, z_paK2, z_pkK, z_puB, z_puK, z_putI, z_putM, z_putO, z_putV, z_r1K, z_r2K, z_r2K2, z_rdB, z_rdK, z_rdK2, z_rdM, z_reK, z_ret, z_retI, z_retN, z_rg1, z_rg2, z_rgI1, z_rgI2, z_rtV, z_saI, z_saO, z_seqB, z_seqC, z_seqN, z_seqR, z_sl, z_slK, z_slK2, z_slK3, z_slice, z_suB, z_suK, z_tK, z_tO, z_tV, z_tbK, z_tnK, z_truB, z_truI, z_truK, z_truL, z_truN, z_truT, z_tst, z_tuK, z_tupL, z_tupT, z_unK, z_vO, z_vS, z_vV, z_vals, z_vals0, z_wpB, z_wpO, z_yes, List.set_cons_zero, List.set_cons_succ, List.getElem?_cons_zero, List.getElem?_cons_succ, List.length_cons, List.length_nil, Bool.not_true, Bool.not_false, if_true, if_false, Bool.false_eq_true, reduceCtorEq, and_self, and_true, true_and, y_addI, y_sub, y_lt, y_gt, y_le, y_ge, y_neg, y_eqI, y_neI, Nat.reduceAdd, Nat.reduceLT, Nat.reduceLeDiff, decide_eq_true_eq, sz, Nat.zero_le, dn_len, List.isEmpty_cons, List.isEmpty_nil, List.cons_append, List.nil_append, List.all_cons, List.all_nil, Bool.and_true, Bool.true_and, Bool.and_self, h3]
    refine forL_P (fun j e => ∃ (b : Nat) (t3 t4 : Sl), e = [.val (.tuple (dn p)), .val (.tuple (dn q)), .val (.int (b : Int)), t3, t4, .no] ∧ Bd ks j b) (fun j d e hd hI => ?_) (fun e hI => ?_)
      ⟨1, .no, .no, rfl, by omega, (fun l hl => by simp at hl), by simp⟩
    · obtain ⟨b, t3, t4, rfl, B⟩ := hI
      rw [List.getElem?_map] at hd
      obtain ⟨l, hl, rfl⟩ := Option.map_eq_some_iff.mp hd
      have hlm : l ∈ ks := List.mem_of_getElem? hl
      have hl1 := hpos l hlm
      have hl2 : l ≤ n := Nat.le_trans (le_sum hlm) hsum
      have hg := gcd_ok (x := b) (y := l) (by omega)
      have hgp : 0 < Nat.gcd b l := Nat.gcd_pos_of_pos_right b hl1
      have hgl : Nat.gcd b l ≤ l := Nat.le_of_dvd hl1 (Nat.gcd_dvd_right b l)
      have hd := fDivN (a := l) (b := Nat.gcd b l) hgp (by omega)
      have hb : b < 2 ^ 60 := by
        refine Nat.lt_of_le_of_lt B.le ?_
        refine Nat.lt_of_le_of_lt (Nat.pow_le_pow_right (by omega) (show (ks.take j).sum ≤ 16 from ?_)) (by decide)
        have h5 : (ks.take j).sum ≤ ks.sum := by
          have := congrArg List.sum (List.take_append_drop j ks)
          rw [List.sum_append] at this
          omega
        omega
      have hm := fMulN (a := b) (b := l / Nat.gcd b l) hb
      have look2 : lookAt ([Sl.val (.tuple (dn p)), .val (.tuple (dn q)), .val (.int (b : Int)), .val (.int (l : Int)), .val (.int (c l)), .no][2]?) = some (.int (b : Int)) := rfl
      simp only [z_And, z_AndV, z_Args, z_Args0, z_Asg, z_BV, z_Bin, z_Break, z_C, z_CallB, z_Chain, z_Comp, z_Cont, z_DGet, z_DIn, z_DPut, z_Enum, z_Expr, z_For, z_Group, z_If, z_It, z_List, z_Meth, z_NewK, z_NewT, z_Next, z_Nm, z_NoP, z_Not, z_Op, z_Or, z_OrV, z_P, z_Par, z_Pass, z_Pk, z_Read, z_Ret, z_RetN, z_Rg1, z_Rg2, z_SIf, z_Seq, z_Sl, z_Sub, z_TB, z_Take, z_Tru, z_Tu, z_Tup, z_Turn, z_Un, z_Var, z_abs, z_agK, z_andF, z_andT, z_andVF, z_andVT, z_apI, z_apO, z_app1, z_app2, z_appA, z_ar1, z_ar2, z_arK, z_arK2, z_argP, z_argS, z_argV, z_args, z_args0, z_asK, z_asK2, z_atI, z_atK, z_atO, z_atV, z_augE, z_augF, z_binK, z_binK2, z_bvK, z_callE, z_cbK, z_chK, z_chK2, z_chain2, z_chnF, z_chnT, z_clB, z_clK, z_coK, z_dgK, z_dgK2, z_dget, z_diK, z_diK2, z_din, z_dispL, z_dispT, z_dvget, z_exK, z_exc, z_go, z_go0, z_goK, z_gotD, z_gotIn, z_grK, z_ifF, z_ifT, z_ifVF, z_ifVT, z_int, z_intB, z_io0, z_ioP, z_ioS, z_ioV, z_isL, z_isO, z_itE, z_itL, z_itS, z_itT, z_kpO, z_kpV, z_lenL, z_lenT, z_liK, z_lisL, z_lisT, z_lkK, z_look0, z_look1, z_lookD, z_lookDK, z_lookP, z_lookV, z_mCall, z_meB, z_meI, z_meK, z_meO, z_meR, z_no, z_notK, z_npK, z_npO, z_npS, z_npV, z_ok, z_one0, z_oneP, z_oneS, z_oneV, z_opO, z_opP, z_opS, z_opV, z_orF, z_orT, z_orVF, z_orVT, z_pI, z_paB, z_paK, z_paK2, z_pkK, z_puB, z_puK, z_putI, z_putM, z_putO, z_putV, z_r1K, z_r2K, z_r2K2, z_rdB, z_rdK, z_rdK2, z_rdM, z_reK, z_ret, z_retI, z_retN, z_rg1, z_rg2, z_rgI1, z_rgI2, z_rtV, z_saI, z_saO, z_seqB, z_seqC, z_seqN, z_seqR, z_sl, z_slK, z_slK2, z_slK3, z_slice, z_suB, z_suK, z_tK, z_tO, z_tV, z_tbK, z_tnK, z_truB, z_truI, z_truK, z_truL, z_truN, z_truT, z_tst, z_tuK, z_tupL, z_tupT, z_unK, z_vO, z_vS, z_vV, z_vals, z_vals0, z_wpB, z_wpO, z_yes, List.set_cons_zero, List.set_cons_succ, List.getElem?_cons_zero, List.getElem?_cons_succ, List.length_cons, List.length_nil, Bool.not_true, Bool.not_false, if_true, if_false, Bool.false_eq_true, reduceCtorEq, and_self, and_true, true_and, y_addI, y_sub, y_lt, y_gt, y_le, y_ge, y_neg, y_eqI, y_neI, Nat.reduceAdd, Nat.reduceLT, Nat.reduceLeDiff, decide_eq_true_eq, sz, Nat.zero_le, dn_len, List.isEmpty_cons, List.isEmpty_nil, List.cons_append, List.nil_append, List.all_cons, List.all_nil, Bool.and_true, Bool.true_and, Bool.and_self, z_aug look2, hg, hd, hm]
      exact ⟨b * (l / Nat.gcd b l), _, _, rfl, bd_step B hl hl1⟩
    · obtain ⟨b, t3, t4, rfl, B⟩ := hI
      have ht : ks.take (ks.map fun (l : Nat) => PyData.tuple [.int (l : Int), .int (c l)]).length = ks := by rw [List.length_map, List.take_length]
      have hble : b ≤ 65536 := by
        have h5 := B.le
        rw [ht] at h5
        exact Nat.le_trans h5 (Nat.pow_le_pow_right (n := 2) (by omega) (show ks.sum ≤ 16 by omega))
      have hdv : ∀ l ∈ ks, l ∣ b := fun l hl => B.dv l (by rw [ht]; exact hl)
      have per : pw p n b = List.range n := by
        unfold pw
        refine ext_getD (by rw [List.length_map]) fun x hx => ?_
        rw [List.length_map, List.length_range] at hx
        rw [getD_map (by rw [List.length_range]; exact hx), List.getD_eq_getElem?_getD, List.getElem?_range hx]
        obtain ⟨r, hr, hxr⟩ := List.mem_flatten.mp ((hcov x).mpr hx)
        obtain ⟨i, hi, rfl⟩ := mem_getD hxr
        show itp p b (r.getD i 0) = r.getD i 0
        rw [itp_ring (hok.ok r hr) hi b]
        obtain ⟨z, hz⟩ := hdv _ (hks r hr)
        rw [hz, Nat.add_mul_mod_self_left, Nat.mod_eq_of_lt hi]
      have hmin : fMin2 (.int (b : Int)) (.int 100000) = some (.val (.int (b : Int))) := by
        rw [y_min2, if_neg (by omega)]
      have rg : ∀ e : VE, rgI 0 (b : Int) e = .ok (dn (List.range b)) e := fun e => rgIt rfl (by omega)
      simp only [z_And, z_AndV, z_Args, z_Args0, z_Asg, z_BV, z_Bin, z_Break, z_C, z_CallB, z_Chain, z_Comp, z_Cont, z_DGet, z_DIn, z_DPut, z_Enum, z_Expr, z_For, z_Group, z_If, z_It, z_List, z_Meth, z_NewK, z_NewT, z_Next, z_Nm, z_NoP, z_Not, z_Op, z_Or, z_OrV, z_P, z_Par, z_Pass, z_Pk, z_Read, z_Ret, z_RetN, z_Rg1, z_Rg2, z_SIf, z_Seq, z_Sl, z_Sub, z_TB, z_Take, z_Tru, z_Tu, z_Tup, z_Turn, z_Un, z_Var, z_abs, z_agK, z_andF, z_andT, z_andVF, z_andVT, z_apI, z_apO, z_app1, z_app2, z_appA, z_ar1, z_ar2, z_arK, z_arK2, z_argP, z_argS, z_argV, z_args, z_args0, z_asK, z_asK2, z_atI, z_atK, z_atO, z_atV, z_augE, z_augF, z_binK, z_binK2, z_bvK, z_callE, z_cbK, z_chK, z_chK2, z_chain2, z_chnF, z_chnT, z_clB, z_clK, z_coK, z_dgK, z_dgK2, z_dget, z_diK, z_diK2, z_din, z_dispL, z_dispT, z_dvget, z_exK, z_exc, z_go, z_go0, z_goK, z_gotD, z_gotIn, z_grK, z_ifF, z_ifT, z_ifVF, z_ifVT, z_int, z_intB, z_io0, z_ioP, z_ioS, z_ioV, z_isL, z_isO, z_itE, z_itL, z_itS, z_itT, z_kpO, z_kpV, z_lenL, z_lenT, z_liK, z_lisL, z_lisT, z_lkK, z_look0, z_look1, z_lookD, z_lookDK, z_lookP, z_lookV, z_mCall, z_meB, z_meI, z_meK, z_meO, z_meR, z_no, z_notK, z_npK, z_npO, z_npS, z_npV, z_ok, z_one0, z_oneP, z_oneS, z_oneV, z_opO, z_opP, z_opS, z_opV, z_orF, z_orT, z_orVF, z_orVT, z_pI, z_paB, z_paK, z_paK2, z_pkK, z_puB, z_puK, z_putI, z_putM, z_putO, z_putV, z_r1K, z_r2K, z_r2K2, z_rdB, z_rdK, z_rdK2, z_rdM, z_reK, z_ret, z_retI, z_retN, z_rg1, z_rg2, z_rgI1, z_rgI2, z_rtV, z_saI, z_saO, z_seqB, z_seqC, z_seqN, z_seqR, z_sl, z_slK, z_slK2, z_slK3, z_slice, z_suB, z_suK, z_tK, z_tO, z_tV, z_tbK, z_tnK, z_truB, z_truI, z_truK, z_truL, z_truN, z_truT, z_tst, z_tuK, z_tupL, z_tupT, z_unK, z_vO, z_vS, z_vV, z_vals, z_vals0, z_wpB, z_wpO, z_yes, List.set_cons_zero, List.set_cons_succ, List.getElem?_cons_zero, List.getElem?_cons_succ, List.length_cons, List.length_nil, Bool.not_true, Bool.not_false, if_true, if_false, Bool.false_eq_true, reduceCtorEq, and_self, and_true, true_and, y_addI, y_sub, y_lt, y_gt, y_le, y_ge, y_neg, y_eqI, y_neI, Nat.reduceAdd, Nat.reduceLT, Nat.reduceLeDiff, decide_eq_true_eq, sz, Nat.zero_le, dn_len, List.isEmpty_cons, List.isEmpty_nil, List.cons_append, List.nil_append, List.all_cons, List.all_nil, Bool.and_true, Bool.true_and, Bool.and_self, hmin, rg]
      refine forL_P (fun k e => ∃ t5 : Sl, e = [.val (.tuple (dn p)), .val (.tuple (dn q)), .val (.int (b : Int)), t3, t4, t5] ∧ ∀ j, j < k → pw p n j ≠ q) (fun k d e hd hI => ?_) (fun e hI => ?_) ⟨.no, rfl, fun j hj => absurd hj (Nat.not_lt_zero _)⟩
      · obtain ⟨t5, rfl, hk⟩ := hI
        have hkb : k < b := by
          have := (List.getElem?_eq_some_iff.mp hd).1
          rw [dn_len, List.length_range] at this
          exact this
        have hdk : d = .int (k : Int) := by
          rw [dn_at (by rw [List.length_range]; exact hkb), List.getD_eq_getElem?_getD, List.getElem?_range hkb] at hd
          exact (Option.some.inj hd).symm
        subst hdk
        have hpw := powered_ok (k := k) hp (by omega)
        by_cases he : pw p n k = q
        · simp only [z_And, z_AndV, z_Args, z_Args0, z_Asg, z_BV, z_Bin, z_Break, z_C, z_CallB, z_Chain, z_Comp, z_Cont, z_DGet, z_DIn, z_DPut, z_Enum, z_Expr, z_For, z_Group, z_If, z_It, z_List, z_Meth, z_NewK, z_NewT, z_Next, z_Nm, z_NoP, z_Not, z_Op, z_Or, z_OrV, z_P, z_Par, z_Pass, z_Pk, z_Read, z_Ret, z_RetN, z_Rg1, z_Rg2, z_SIf, z_Seq, z_Sl, z_Sub, z_TB, z_Take, z_Tru, z_Tu, z_Tup, z_Turn, z_Un, z_Var, z_abs, z_agK, z_andF, z_andT, z_andVF, z_andVT, z_apI, z_apO, z_app1, z_app2, z_appA, z_ar1, z_ar2, z_arK, z_arK2, z_argP, z_argS, z_argV, z_args, z_args0, z_asK, z_asK2, z_atI, z_atK, z_atO, z_atV, z_augE, z_augF, z_binK, z_binK2, z_bvK, z_callE, z_cbK, z_chK, z_chK2, z_chain2, z_chnF, z_chnT, z_clB, z_clK, z_coK, z_dgK, z_dgK2, z_dget, z_diK, z_diK2, z_din, z_dispL, z_dispT, z_dvget, z_exK, z_exc, z_go, z_go0, z_goK, z_gotD, z_gotIn, z_grK, z_ifF, z_ifT, z_ifVF, z_ifVT, z_int, z_intB, z_io0, z_ioP, z_ioS, z_ioV, z_isL, z_isO, z_itE, z_itL, z_itS, z_itT, z_kpO, z_kpV, z_lenL, z_lenT, z_liK, z_lisL, z_lisT, z_lkK, z_look0, z_look1, z_lookD, z_lookDK, z_lookP, z_lookV, z_mCall, z_meB, z_meI, z_meK, z_meO, z_meR, z_no, z_notK, z_npK, z_npO, z_npS, z_npV, z_ok, z_one0, z_oneP, z_oneS, z_oneV, z_opO, z_opP, z_opS, z_opV, z_orF, z_orT, z_orVF, z_orVT, z_pI, z_paB, z_paK, z_paK2, z_pkK, z_puB, z_puK, z_putI, z_putM, z_putO, z_putV, z_r1K, z_r2K, z_r2K2, z_rdB, z_rdK, z_rdK2, z_rdM, z_reK, z_ret, z_retI, z_retN, z_rg1, z_rg2, z_rgI1, z_rgI2, z_rtV, z_saI, z_saO, z_seqB, z_seqC, z_seqN, z_seqR, z_sl, z_slK, z_slK2, z_slK3, z_slice, z_suB, z_suK, z_tK, z_tO, z_tV, z_tbK, z_tnK, z_truB, z_truI, z_truK, z_truL, z_truN, z_truT, z_tst, z_tuK, z_tupL, z_tupT, z_unK, z_vO, z_vS, z_vV, z_vals, z_vals0, z_wpB, z_wpO, z_yes, List.set_cons_zero, List.set_cons_succ, List.getElem?_cons_zero, List.getElem?_cons_succ, List.length_cons, List.length_nil, Bool.not_true, Bool.not_false, if_true, if_false, Bool.false_eq_true, reduceCtorEq, and_self, and_true, true_and, y_addI, y_sub, y_lt, y_gt, y_le, y_ge, y_neg, y_eqI, y_neI, Nat.reduceAdd, Nat.reduceLT, Nat.reduceLeDiff, decide_eq_true_eq, sz, Nat.zero_le, dn_len, List.isEmpty_cons, List.isEmpty_nil, List.cons_append, List.nil_append, List.all_cons, List.all_nil, Bool.and_true, Bool.true_and, Bool.and_self, hpw, eqT, decide_eq_true he, flR]
          exact ⟨.int (k : Int), b, rfl, rfl, B.pos, hble, per, .inl ⟨k, hkb, he, hk, rfl⟩⟩
        · simp only [z_And, z_AndV, z_Args, z_Args0, z_Asg, z_BV, z_Bin, z_Break, z_C, z_CallB, z_Chain, z_Comp, z_Cont, z_DGet, z_DIn, z_DPut, z_Enum, z_Expr, z_For, z_Group, z_If, z_It, z_List, z_Meth, z_NewK, z_NewT, z_Next, z_Nm, z_NoP, z_Not, z_Op, z_Or, z_OrV, z_P, z_Par, z_Pass, z_Pk, z_Read, z_Ret, z_RetN, z_Rg1, z_Rg2, z_SIf, z_Seq, z_Sl, z_Sub, z_TB, z_Take, z_Tru, z_Tu, z_Tup, z_Turn, z_Un, z_Var, z_abs, z_agK, z_andF, z_andT, z_andVF, z_andVT, z_apI, z_apO, z_app1, z_app2, z_appA, z_ar1, z_ar2, z_arK, z_arK2, z_argP, z_argS, z_argV, z_args, z_args0, z_asK, z_asK2, z_atI, z_atK, z_atO, z_atV, z_augE, z_augF, z_binK, z_binK2, z_bvK, z_callE, z_cbK, z_chK, z_chK2, z_chain2, z_chnF, z_chnT, z_clB, z_clK, z_coK, z_dgK, z_dgK2, z_dget, z_diK, z_diK2, z_din, z_dispL, z_dispT, z_dvget, z_exK, z_exc, z_go, z_go0, z_goK, z_gotD, z_gotIn, z_grK, z_ifF, z_ifT, z_ifVF, z_ifVT, z_int, z_intB, z_io0, z_ioP, z_ioS, z_ioV, z_isL, z_isO, z_itE, z_itL, z_itS, z_itT, z_kpO, z_kpV, z_lenL, z_lenT, z_liK, z_lisL, z_lisT, z_lkK, z_look0, z_look1, z_lookD, z_lookDK, z_lookP, z_lookV, z_mCall, z_meB, z_meI, z_meK, z_meO, z_meR, z_no, z_notK, z_npK, z_npO, z_npS, z_npV, z_ok, z_one0, z_oneP, z_oneS, z_oneV, z_opO, z_opP, z_opS, z_opV, z_orF, z_orT, z_orVF, z_orVT, z_pI, z_paB, z_paK, z_paK2, z_pkK, z_puB, z_puK, z_putI, z_putM, z_putO, z_putV, z_r1K, z_r2K, z_r2K2, z_rdB, z_rdK, z_rdK2, z_rdM, z_reK, z_ret, z_retI, z_retN, z_rg1, z_rg2, z_rgI1, z_rgI2, z_rtV, z_saI, z_saO, z_seqB, z_seqC, z_seqN, z_seqR, z_sl, z_slK, z_slK2, z_slK3, z_slice, z_suB, z_suK, z_tK, z_tO, z_tV, z_tbK, z_tnK, z_truB, z_truI, z_truK, z_truL, z_truN, z_truT, z_tst, z_tuK, z_tupL, z_tupT, z_unK, z_vO, z_vS, z_vV, z_vals, z_vals0, z_wpB, z_wpO, z_yes, List.set_cons_zero, List.set_cons_succ, List.getElem?_cons_zero, List.getElem?_cons_succ, List.length_cons, List.length_nil, Bool.not_true, Bool.not_false, if_true, if_false, Bool.false_eq_true, reduceCtorEq, and_self, and_true, true_and, y_addI, y_sub, y_lt, y_gt, y_le, y_ge, y_neg, y_eqI, y_neI, Nat.reduceAdd, Nat.reduceLT, Nat.reduceLeDiff, decide_eq_true_eq, sz, Nat.zero_le, dn_len, List.isEmpty_cons, List.isEmpty_nil, List.cons_append, List.nil_append, List.all_cons, List.all_nil, Bool.and_true, Bool.true_and, Bool.and_self, hpw, eqT, decide_eq_false he]
          refine ⟨_, rfl, fun j hj => ?_⟩
          by_cases h : j = k
          · subst h; exact he
          · exact hk j (by omega)
      · obtain ⟨t5, rfl, hk⟩ := hI
        rw [dn_len, List.length_range] at hk
        simp only [z_And, z_AndV, z_Args, z_Args0, z_Asg, z_BV, z_Bin, z_Break, z_C, z_CallB, z_Chain, z_Comp, z_Cont, z_DGet, z_DIn, z_DPut, z_Enum, z_Expr, z_For, z_Group, z_If, z_It, z_List, z_Meth, z_NewK, z_NewT, z_Next, z_Nm, z_NoP, z_Not, z_Op, z_Or, z_OrV, z_P, z_Par, z_Pass, z_Pk, z_Read, z_Ret, z_RetN, z_Rg1, z_Rg2, z_SIf, z_Seq, z_Sl, z_Sub, z_TB, z_Take, z_Tru, z_Tu, z_Tup, z_Turn, z_Un, z_Var, z_abs, z_agK, z_andF, z_andT, z_andVF, z_andVT, z_apI, z_apO, z_app1, z_app2, z_appA, z_ar1, z_ar2, z_arK, z_arK2, z_argP, z_argS, z_argV, z_args, z_args0, z_asK, z_asK2, z_atI, z_atK, z_atO, z_atV, z_augE, z_augF, z_binK, z_binK2, z_bvK, z_callE, z_cbK, z_chK, z_chK2, z_chain2, z_chnF, z_chnT, z_clB, z_clK, z_coK, z_dgK, z_dgK2, z_dget, z_diK, z_diK2, z_din, z_dispL, z_dispT, z_dvget, z_exK, z_exc, z_go, z_go0, z_goK, z_gotD, z_gotIn, z_grK, z_ifF, z_ifT, z_ifVF, z_ifVT, z_int, z_intB, z_io0, z_ioP, z_ioS, z_ioV, z_isL, z_isO, z_itE, z_itL, z_itS, z_itT, z_kpO, z_kpV, z_lenL, z_lenT, z_liK, z_lisL, z_lisT, z_lkK, z_look0, z_look1, z_lookD, z_lookDK, z_lookP, z_lookV, z_mCall, z_meB, z_meI, z_meK, z_meO, z_meR, z_no, z_notK, z_npK, z_npO, z_npS, z_npV, z_ok, z_one0, z_oneP, z_oneS, z_oneV, z_opO, z_opP, z_opS, z_opV, z_orF, z_orT, z_orVF, z_orVT, z_pI, z_paB, z_paK, z_paK2, z_pkK, z_puB, z_puK, z_putI, z_putM, z_putO, z_putV, z_r1K, z_r2K, z_r2K2, z_rdB, z_rdK, z_rdK2, z_rdM, z_reK, z_ret, z_retI, z_retN, z_rg1, z_rg2, z_rgI1, z_rgI2, z_rtV, z_saI, z_saO, z_seqB, z_seqC, z_seqN, z_seqR, z_sl, z_slK, z_slK2, z_slK3, z_slice, z_suB, z_suK, z_tK, z_tO, z_tV, z_tbK, z_tnK, z_truB, z_truI, z_truK, z_truL, z_truN, z_truT, z_tst, z_tuK, z_tupL, z_tupT, z_unK, z_vO, z_vS, z_vV, z_vals, z_vals0, z_wpB, z_wpO, z_yes, List.set_cons_zero, List.set_cons_succ, List.getElem?_cons_zero, List.getElem?_cons_succ, List.length_cons, List.length_nil, Bool.not_true, Bool.not_false, if_true, if_false, Bool.false_eq_true, reduceCtorEq, and_self, and_true, true_and, y_addI, y_sub, y_lt, y_gt, y_le, y_ge, y_neg, y_eqI, y_neI, Nat.reduceAdd, Nat.reduceLT, Nat.reduceLeDiff, decide_eq_true_eq, sz, Nat.zero_le, dn_len, List.isEmpty_cons, List.isEmpty_nil, List.cons_append, List.nil_append, List.all_cons, List.all_nil, Bool.and_true, Bool.true_and, Bool.and_self]
        exact ⟨.none, b, rfl, rfl, B.pos, hble, per, .inr ⟨rfl, hk⟩⟩
  obtain ⟨r, io, h, v, b, rfl, rfl, h2⟩ := ok_of_P key
  exact ⟨v, b, h, h2⟩
end VP
namespace VP
open PySem VL L2
/-! ### lists of tables -/
def lts (Q : List (List Nat)) : List Da := Q.map fun q => PyData.tuple (dn q)
theorem lay_lts : ∀ {Q : List (List Nat)}, PyData.canLayAll0 (lts Q) = true
  | [] => by show PyData.canLayAll0 [] = true; rw [PyData.canLayAll0]
  | q :: Q => by
    show PyData.canLayAll0 (.tuple (dn q) :: lts Q) = true
    rw [PyData.canLayAll0, lay_lts (Q := Q), PyData.canLay0, lay_dn]
    rfl
theorem dep_lts : ∀ {Q : List (List Nat)}, PyData.depthAll (lts Q) ≤ 1
  | [] => by show PyData.depthAll [] ≤ 1; rw [PyData.depthAll]; omega
  | q :: Q => by
    show PyData.depthAll (.tuple (dn q) :: lts Q) ≤ 1
    rw [PyData.depthAll, PyData.depth, dep_dn]
    have := dep_lts (Q := Q)
    omega
theorem sh_lts {Q : List (List Nat)} : SeqAt.shaped (.list (lts Q)) = true := by
  unfold SeqAt.shaped
  rw [PyData.canLay0, lay_lts, PyData.depth, Bool.true_and]
  exact decide_eq_true (by have := dep_lts (Q := Q); omega)
theorem eqvT {p q : List Nat} : PyData.eqv (.tuple (dn p)) (.tuple (dn q)) = decide (p = q) := by rw [PyData.eqv, eqv_dn]
theorem any_lts {g : List Nat} : ∀ {Q : List (List Nat)}, ((lts Q).any fun z => PyData.eqv z (.tuple (dn g))) = decide (g ∈ Q)
  | [] => rfl
  | q :: Q => by
    show (PyData.eqv (.tuple (dn q)) (.tuple (dn g)) || (lts Q).any fun z => PyData.eqv z (.tuple (dn g))) = _
    rw [eqvT, any_lts (Q := Q)]
    by_cases h : q = g
    · subst h; simp
    · have h' : ¬ g = q := fun z => h z.symm
      simp [h, h']
theorem in_lts {g : List Nat} {Q : List (List Nat)} : fIn (.tuple (dn g)) (.list (lts Q)) = some (.val (.bool (decide (g ∈ Q)))) := by
  have e : fInL false (.tuple (dn g)) (.list (lts Q)) = some (.val (.bool (decide (g ∈ Q)))) := by
    show (if SeqAt.shaped (.tuple (dn g)) = true ∧ SeqAt.shaped (.list (lts Q)) = true then some (Sl.val (.bool (false ^^ (lts Q).any fun z => PyData.eqv z (.tuple (dn g))))) else none) = _
    rw [if_pos ⟨shT, sh_lts⟩, any_lts, Bool.false_xor]
  show (fInL false (.tuple (dn g)) (.list (lts Q))).or _ = _
  rw [e]
  rfl
theorem idx_lts {g : List Nat} : ∀ {Q : List (List Nat)} {k i : Nat}, Q[k]? = some g → (∀ j, j < k → Q[j]? ≠ some g) → idxD (.tuple (dn g)) (lts Q) i = some (k + i)
  | q :: Q, 0, i, h, _ => by
    have h : q = g := by simpa using h
    subst h
    show (if PyData.eqv (.tuple (dn q)) (.tuple (dn q)) = true then some i else _) = _
    rw [eqvT, decide_eq_true rfl, if_pos rfl, Nat.zero_add]
  | q :: Q, k + 1, i, h, hm => by
    have h0 : ¬ q = g := fun z => hm 0 (Nat.succ_pos _) (by rw [z]; rfl)
    show (if PyData.eqv (.tuple (dn q)) (.tuple (dn g)) = true then some i else idxD (.tuple (dn g)) (lts Q) (i + 1)) = _
    rw [eqvT, decide_eq_false h0, if_neg Bool.false_ne_true, idx_lts (k := k) (by simpa using h) fun j hj => by have := hm (j + 1) (by omega); simpa using this]
    congr 1
    omega
  | [], k, i, h, _ => by simp at h
theorem index_lts {g : List Nat} {Q : List (List Nat)} {k : Nat} (h : Q[k]? = some g) (hm : ∀ j, j < k → Q[j]? ≠ some g) : fIndex (lts Q) [.tuple (dn g)] = some (.val (.int (k : Int))) := by
  show (if SeqAt.shaped (.list (lts Q)) = true ∧ SeqAt.shaped (.tuple (dn g)) = true then natS (idxD (.tuple (dn g)) (lts Q) 0) else none) = _
  rw [if_pos ⟨sh_lts, shT⟩, idx_lts h hm]
  rfl
theorem lts_at {Q : List (List Nat)} {i : Int} (h0 : 0 ≤ i) (h : i < Q.length) : ∃ g, fIx (.list (lts Q)) (.int i) = some (.val (.tuple (dn g))) := by
  have hl : i.toNat < Q.length := by omega
  refine ⟨Q[i.toNat], y_ixL (atI_at h0 ?_)⟩
  unfold lts
  rw [List.getElem?_map, List.getElem?_eq_getElem hl]
  rfl
theorem lts_len {Q : List (List Nat)} : (lts Q).length = Q.length := by unfold lts; rw [List.length_map]
/-! ### powers -/
theorem itp_lt {p : List Nat} {n : Nat} (hp : Perm0 p n) {x : Nat} (hx : x < n) : ∀ k, itp p k x < n
  | 0 => hx
  | k + 1 => hp.lt (itp_lt hp hx k)
theorem itp_add {p : List Nat} {x : Nat} {b : Nat} : ∀ a, itp p (a + b) x = itp p a (itp p b x)
  | 0 => by rw [Nat.zero_add]; rfl
  | a + 1 => by
    have e : a + 1 + b = (a + b) + 1 := by omega
    rw [e]
    show p.getD (itp p (a + b) x) 0 = p.getD (itp p a (itp p b x)) 0
    rw [itp_add a]
theorem pw_zero {p : List Nat} {n : Nat} : pw p n 0 = List.range n := (List.map_congr_left (g := id) fun x _ => rfl).trans (List.map_id _)
theorem pw_one {p : List Nat} {n : Nat} (hp : Perm0 p n) : pw p n 1 = p := by
  have := map_getD (p := p)
  rw [hp.len] at this
  exact this
theorem pw_len {p : List Nat} {n k : Nat} : (pw p n k).length = n := by unfold pw; rw [List.length_map, List.length_range]
theorem pw_succ {p : List Nat} {n k : Nat} : bh (pw p n k) p = pw p n (k + 1) := by
  unfold bh pw
  rw [List.map_map]
  rfl
theorem pw_mem {p : List Nat} {n k : Nat} (hp : Perm0 p n) : ∀ x ∈ pw p n k, x < p.length := fun x hx => by
  obtain ⟨y, hy, rfl⟩ := List.mem_map.mp hx
  rw [hp.len]
  exact itp_lt hp (List.mem_range.mp hy) k
theorem pw_back {p : List Nat} {n m k : Nat} (h : pw p n m = List.range n) (hk : m ≤ k) : pw p n k = pw p n (k - m) := by
  unfold pw
  refine List.map_congr_left fun x hx => ?_
  have hx' := List.mem_range.mp hx
  have e : itp p m x = x := by
    have h2 := congrArg (fun l => l.getD x 0) h
    have h2 : (pw p n m).getD x 0 = (List.range n).getD x 0 := h2
    unfold pw at h2
    rw [getD_map (by rw [List.length_range]; exact hx'), List.getD_eq_getElem?_getD, List.getElem?_range hx'] at h2
    exact h2
  have e2 : k = (k - m) + m := by omega
  rw [e2, itp_add, e, Nat.add_sub_cancel]
def pws (p : List Nat) (n m : Nat) : List (List Nat) := (List.range m).map (pw p n)
theorem pws_at {p : List Nat} {n m i : Nat} (h : i < m) : (pws p n m)[i]? = some (pw p n i) := by
  unfold pws
  rw [List.getElem?_map, List.getElem?_range h]
  rfl
theorem pws_succ {p : List Nat} {n m : Nat} : lts (pws p n m) ++ [.tuple (dn (pw p n m))] = lts (pws p n (m + 1)) := by
  unfold lts pws
  rw [List.range_succ, List.map_append, List.map_append]
  rfl
/-! ### what the law looks at -/
theorem f1 {X : List Nat} (h : X.length ≤ 1000) : flat1 (.tuple (dn X)) = true := by
  show ((dn X).all notD && decide ((dn X).length ≤ 1000)) = true
  rw [dn_len, decide_eq_true h, Bool.and_true]
  refine List.all_eq_true.mpr fun z hz => ?_
  obtain ⟨i, _, rfl⟩ := List.mem_map.mp hz
  rfl
theorem f2 {xs : List Da} (h : ∀ x ∈ xs, flat1 x = true) (hl : xs.length ≤ 1000) : flat2 (.tuple xs) = true := by
  show (xs.all flat1 && decide (xs.length ≤ 1000)) = true
  rw [decide_eq_true hl, Bool.and_true]
  exact List.all_eq_true.mpr h
theorem sh_bool {b : Bool} : SeqAt.shaped (.bool b) = true := rfl
theorem says_ok {b : Bool} : fn_14 [.val (.bool b), .val (.bool b)] = .ok (.val (.bool true)) none := by
  have it := isi_nd (g := isBool) (d := .bool b) rfl
  have it2 : isBool (.bool b) = true := rfl
  have eb : fEq (.bool b) (.bool b) = some (.val (.bool true)) := by
    unfold fEq
    rw [if_pos ⟨sh_bool, sh_bool⟩, PyData.eqv]
    cases b <;> rfl
  have key : WF (fn_14 [.val (.bool b), .val (.bool b)]) (fun r io => r = .val (.bool true) ∧ io = none) := by
    refine body_P rfl rfl ?_
    show WP (ms_14 [.val (.bool b), .val (.bool b)]) _
    simp only [ms_14, z_And, z_AndV, z_Args, z_Args0, z_Asg, z_BV, z_Bin, z_Break, z_C, z_CallB, z_Chain, z_Comp, z_Cont, z_DGet, z_DIn, z_DPut, z_Enum, z_Expr, z_For, z_Group, z_If, z_It, z_List, z_Meth, z_NewK, z_NewT, z_Next, z_Nm, z_NoP, z_Not, z_Op, z_Or, z_OrV, z_P, z_Par, z_Pass, z_Pk, z_Read, z_Ret, z_RetN, z_Rg1, z_Rg2, z_SIf, z_Seq, z_Sl, z_Sub, z_TB, z_Take, z_Tru, z_Tu, z_Tup, z_Turn, z_Un, z_Var, z_abs, z_agK, z_andF, z_andT, z_andVF, z_andVT, z_apI, z_apO, z_app1, z_app2, z_appA, z_ar1, z_ar2, z_arK, z_arK2, z_argP, z_argS, z_argV, z_args, z_args0, z_asK, z_asK2, z_atI, z_atK, z_atO, z_atV, z_augE, z_augF, z_binK, z_binK2, z_bvK, z_callE, z_cbK, z_chK, z_chK2, z_chain2, z_chnF, z_chnT, z_clB, z_clK, z_coK, z_dgK, z_dgK2, z_dget, z_diK, z_diK2, z_din, z_dispL, z_dispT, z_dvget, z_exK, z_exc, z_go, z_go0, z_goK, z_gotD, z_gotIn, z_grK, z_ifF, z_ifT, z_ifVF, z_ifVT, z_int, z_intB, z_io0, z_ioP, z_ioS, z_ioV, z_isL, z_isO, z_itE, z_itL, z_itS, z_itT, z_kpO, z_kpV, z_lenL, z_lenT, z_liK, z_lisL, z_lisT, z_lkK, z_look0, z_look1, z_lookD, z_lookDK, z_lookP, z_lookV, z_mCall, z_meB, z_meI, z_meK, z_meO, z_meR, z_no, z_notK, z_npK, z_npO, z_npS, z_npV, z_ok, z_one0, z_oneP, z_oneS, z_oneV, z_opO, z_opP, z_opS, z_opV, z_orF, z_orT, z_orVF, z_orVT, z_pI, z_paB, z_paK, z_paK2, z_pkK, z_puB, z_puK, z_putI, z_putM, z_putO, z_putV, z_r1K, z_r2K, z_r2K2, z_rdB, z_rdK, z_rdK2, z_rdM, z_reK, z_ret, z_retI, z_retN, z_rg1, z_rg2, z_rgI1, z_rgI2, z_rtV, z_saI, z_saO, z_seqB, z_seqC, z_seqN, z_seqR, z_sl, z_slK, z_slK2, z_slK3, z_slice, z_suB, z_suK, z_tK, z_tO, z_tV, z_tbK, z_tnK, z_truB, z_truI, z_truK, z_truL, z_truN, z_truT, z_tst, z_tuK, z_tupL, z_tupT, z_unK, z_vO, z_vS, z_vV, z_vals, z_vals0, z_wpB, z_wpO, z_yes, List.set_cons_zero, List.set_cons_succ, List.getElem?_cons_zero, List.getElem?_cons_succ, List.length_cons, List.length_nil, Bool.not_true, Bool.not_false, if_true, if_false, Bool.false_eq_true, reduceCtorEq, and_self, and_true, true_and, y_addI, y_sub, y_lt, y_gt, y_le, y_ge, y_neg, y_eqI, y_neI, Nat.reduceAdd, Nat.reduceLT, Nat.reduceLeDiff, decide_eq_true_eq, sz, Nat.zero_le, dn_len, List.isEmpty_cons, List.isEmpty_nil, List.cons_append, List.nil_append, List.all_cons, List.all_nil, Bool.and_true, Bool.true_and, Bool.and_self, it, it2, eb]
    exact ⟨rfl, rfl⟩
  obtain ⟨r, io, h, rfl, rfl⟩ := ok_of_P key
  exact h
theorem neNN : fNe .none .none = some (.val (.bool false)) := by
  have e : SeqAt.shaped .none = true := rfl
  unfold fNe
  rw [if_pos ⟨e, e⟩, PyData.eqv]
  rfl
end VP
namespace VP
open PySem VL L2
theorem pws_one {p : List Nat} {n : Nat} : lts (pws p n 1) = [.tuple (dn (List.range n))] := by
  show [PyData.tuple (dn (pw p n 0))] = _
  rw [pw_zero]
theorem math (ns : List Int) (hl : ns.length ≤ 63) (_ : ∀ z ∈ ns, Builtin.Int.intBits z ≤ 1048576) : (fn_24 [.scr ns]).P (fun r _ => r = .val (.bool true)) (fun _ => False) := by
  obtain ⟨ds0, hd0, D0⟩ := draw_ok hl
  obtain ⟨r, ds1, ht1, r0, r1, D1⟩ := take_ok (many := 5) D0 (by omega) (by omega)
  have ew : (1 : Int) + r = ((1 + r.toNat : Nat) : Int) := by omega
  generalize hw : 1 + r.toNat = w at ew
  have hw1 : 1 ≤ w ∧ w ≤ 5 := by omega
  generalize hn : 2 ^ w = n
  have hn1 : 1 ≤ n ∧ n ≤ 32 := by
    rw [← hn]
    exact ⟨Nat.one_le_two_pow, Nat.pow_le_pow_right (n := 2) (by omega) hw1.2⟩
  obtain ⟨p, ds2, hp, Pp, D2⟩ := perm_ok D1 hn.symm hw1.2
  obtain ⟨o, ds3, ho, Po, D3⟩ := perm_ok D2 hn.symm hw1.2
  obtain ⟨A, B, hAB, T⟩ := turns_ok Pp (by omega)
  have lA := T.a.len
  have lB := T.b.len
  have lp := Pp.len
  have lo := Po.len
  have lr : (List.range n).length = n := List.length_range
  have fA := f1 (X := A) (by omega)
  have fB := f1 (X := B) (by omega)
  have fp := f1 (X := p) (by omega)
  have fo := f1 (X := o) (by omega)
  have fr := f1 (X := List.range n) (by omega)
  have two : ∀ {x y : Da}, flat1 x = true → flat1 y = true → flat2 (.tuple [x, y]) = true := fun {x y} h1 h2 => f2 (fun z hz => by
    simp only [List.mem_cons, List.not_mem_nil, or_false] at hz
    rcases hz with rfl | rfl
    · exact h1
    · exact h2) (by show 2 ≤ 1000; omega)
  have fT := two fA fB
  obtain ⟨bT, _, hT23, hTb⟩ := pair_ok Pp (by omega) fT
  have hbT := hTb A B rfl T
  subst hbT
  obtain ⟨v1, ds4, hv1, q1, D4⟩ := bent_ok (A := A) (B := B) D3 (by omega) (by omega)
  obtain ⟨v2, ds5, hv2, q2, D5⟩ := bent_ok (A := A) (B := B) D4 (by omega) (by omega)
  obtain ⟨v3, ds6, hv3, q3, D6⟩ := bent_ok (A := List.range n) (B := p) D5 (by omega) (by omega)
  have i0 : fIx (.tuple [.tuple (dn A), .tuple (dn B)]) (.int 0) = some (.val (.tuple (dn A))) := rfl
  have i1 : fIx (.tuple [.tuple (dn A), .tuple (dn B)]) (.int 1) = some (.val (.tuple (dn B))) := rfl
  have s1 : fSl (.tuple [.tuple (dn A), .tuple (dn B)]) none (some 1) = some (.val (.tuple [.tuple (dn A)])) := rfl
  have rg : fRgT 0 (p.length : Int) = some (.val (.tuple (dn (List.range n)))) := by rw [lp]; exact rgT rfl (by omega)
  have key : WF (fn_24 [.scr ns]) (fun r _ => r = .val (.bool true)) := by
    refine body_P rfl rfl ?_
    show WP (ms_24 [.scr ns, .no, .no, .no, .no, .no, .no, .no, .no, .no, .no, .no, .no, .no]) _
    simp only [ms_24, z_And, z_AndV, z_Args, z_Args0, z_Asg, z_BV, z_Bin, z_Break, z_C, z_CallB, z_Chain, z_Comp, z_Cont, z_DGet, z_DIn, z_DPut, z_Enum, z_Expr, z_For, z_Group, z_If, z_It, z_List, z_Meth, z_NewK, z_NewT, z_Next, z_Nm, z_NoP, z_Not, z_Op, z_Or, z_OrV, z_P, z_Par, z_Pass, z_Pk, z_Read, z_Ret, z_RetN, z_Rg1, z_Rg2, z_SIf, z_Seq, z_Sl, z_Sub, z_TB, z_Take, z_Tru, z_Tu, z_Tup, z_Turn, z_Un, z_Var, z_abs, z_agK, z_andF, z_andT, z_andVF, z_andVT, z_apI, z_apO, z_app1, z_app2, z_appA, z_ar1, z_ar2, z_arK, z_arK2, z_argP, z_argS, z_argV, z_args, z_args0, z_asK, z_asK2, z_atI, z_atK, z_atO, z_atV, z_augE, z_augF, z_binK, z_binK2, z_bvK, z_callE, z_cbK, z_chK, z_chK2, z_chain2, z_chnF, z_chnT, z_clB, z_clK, z_coK, z_dgK, z_dgK2, z_dget, z_diK, z_diK2, z_din, z_dispL, z_dispT, z_dvget, z_exK, z_exc, z_go, z_go0, z_goK, z_gotD, z_gotIn, z_grK, z_ifF, z_ifT, z_ifVF, z_ifVT, z_int, z_intB, z_io0, z_ioP, z_ioS, z_ioV, z_isL, z_isO, z_itE, z_itL, z_itS, z_itT, z_kpO, z_kpV, z_lenL, z_lenT, z_liK, z_lisL, z_lisT, z_lkK, z_look0, z_look1, z_lookD, z_lookDK, z_lookP, z_lookV, z_mCall, z_meB, z_meI, z_meK, z_meO, z_meR, z_no, z_notK, z_npK, z_npO, z_npS, z_npV, z_ok, z_one0, z_oneP, z_oneS, z_oneV, z_opO, z_opP, z_opS, z_opV, z_orF, z_orT, z_orVF, z_orVT, z_pI, z_paB, z_paK, z_paK2, z_pkK, z_puB, z_puK, z_putI, z_putM, z_putO, z_putV, z_r1K, z_r2K, z_r2K2, z_rdB, z_rdK, z_rdK2, z_rdM, z_reK, z_ret, z_retI, z_retN, z_rg1, z_rg2, z_rgI1, z_rgI2, z_rtV, z_saI, z_saO, z_seqB, z_seqC, z_seqN, z_seqR, z_sl, z_slK, z_slK2, z_slK3, z_slice, z_suB, z_suK, z_tK, z_tO, z_tV, z_tbK, z_tnK, z_truB, z_truI, z_truK, z_truL, z_truN, z_truT, z_tst, z_tuK, z_tupL, z_tupT, z_unK, z_vO, z_vS, z_vV, z_vals, z_vals0, z_wpB, z_wpO, z_yes, List.set_cons_zero, List.set_cons_succ, List.getElem?_cons_zero, List.getElem?_cons_succ, List.length_cons, List.length_nil, Bool.not_true, Bool.not_false, if_true, if_false, Bool.false_eq_true, reduceCtorEq, and_self, and_true, true_and, y_addI, y_sub, y_lt, y_gt, y_le, y_ge, y_neg, y_eqI, y_neI, Nat.reduceAdd, Nat.reduceLT, Nat.reduceLeDiff, decide_eq_true_eq, sz, Nat.zero_le, dn_len, List.isEmpty_cons, List.isEmpty_nil, List.cons_append, List.nil_append, List.all_cons, List.all_nil, Bool.and_true, Bool.true_and, Bool.and_self, hd0, ht1, ew, hp, ho, hAB, hT23, rg, i0, i1, s1, y_addT, y_addL, hv1, hv2, hv3]
    refine forL_P (fun _ e => ∃ (vals : List Da) (t8 : Sl), e = [.scr ns, .own ds6, .val (.int (w : Int)), .val (.tuple (dn p)), .val (.tuple (dn o)), .val (.tuple [.tuple (dn A), .tuple (dn B)]), .val (.tuple (dn (List.range n))), .own vals, t8, .no, .no, .no, .no, .no]) (fun i d e hd hI => ?_) (fun e hI => ?_) ⟨_, .no, rfl⟩
    · obtain ⟨vals, t8, rfl⟩ := hI
      have hm := List.mem_of_getElem? hd
      have hf : flat2 d = true := by
        simp only [List.mem_cons, List.mem_append, List.not_mem_nil, or_false] at hm
        rcases hm with rfl | rfl | rfl | rfl | rfl | rfl | rfl | rfl | rfl | rfl | rfl | rfl | rfl | rfl | rfl
        · exact fT
        · exact two fB fA
        · exact two fp fr
        · exact two fr fp
        · refine f2 (fun z hz => ?_) (by show 3 ≤ 1000; omega)
          simp only [List.mem_cons, List.not_mem_nil, or_false] at hz
          rcases hz with rfl | rfl | rfl
          · exact fA
          · exact fB
          · exact fr
        · refine f2 (fun z hz => ?_) (by show 1 ≤ 1000; omega)
          rw [List.mem_singleton] at hz
          subst hz
          exact fA
        · rfl
        · rfl
        · rfl
        · exact two fr fr
        · exact two fA rfl
        · exact q1
        · exact q2
        · exact q3
        · exact two fo fo
      obtain ⟨b, h8, h23, _⟩ := pair_ok Pp (by omega) hf
      simp only [z_And, z_AndV, z_Args, z_Args0, z_Asg, z_BV, z_Bin, z_Break, z_C, z_CallB, z_Chain, z_Comp, z_Cont, z_DGet, z_DIn, z_DPut, z_Enum, z_Expr, z_For, z_Group, z_If, z_It, z_List, z_Meth, z_NewK, z_NewT, z_Next, z_Nm, z_NoP, z_Not, z_Op, z_Or, z_OrV, z_P, z_Par, z_Pass, z_Pk, z_Read, z_Ret, z_RetN, z_Rg1, z_Rg2, z_SIf, z_Seq, z_Sl, z_Sub, z_TB, z_Take, z_Tru, z_Tu, z_Tup, z_Turn, z_Un, z_Var, z_abs, z_agK, z_andF, z_andT, z_andVF, z_andVT, z_apI, z_apO, z_app1, z_app2, z_appA, z_ar1, z_ar2, z_arK, z_arK2, z_argP, z_argS, z_argV, z_args, z_args0, z_asK, z_asK2, z_atI, z_atK, z_atO, z_atV, z_augE, z_augF, z_binK, z_binK2, z_bvK, z_callE, z_cbK, z_chK, z_chK2, z_chain2, z_chnF, z_chnT, z_clB, z_clK, z_coK, z_dgK, z_dgK2, z_dget, z_diK, z_diK2, z_din, z_dispL, z_dispT, z_dvget, z_exK, z_exc, z_go, z_go0, z_goK, z_gotD, z_gotIn, z_grK, z_ifF, z_ifT, z_ifVF, z_ifVT, z_int, z_intB, z_io0, z_ioP, z_ioS, z_ioV, z_isL, z_isO, z_itE, z_itL, z_itS, z_itT, z_kpO, z_kpV, z_lenL, z_lenT, z_liK, z_lisL, z_lisT, z_lkK, z_look0, z_look1, z_lookD, z_lookDK, z_lookP, z_lookV, z_mCall, z_meB, z_meI, z_meK, z_meO, z_meR, z_no, z_notK, z_npK, z_npO, z_npS, z_npV, z_ok, z_one0, z_oneP, z_oneS, z_oneV, z_opO, z_opP, z_opS, z_opV, z_orF, z_orT, z_orVF, z_orVT, z_pI, z_paB, z_paK, z_paK2, z_pkK, z_puB, z_puK, z_putI, z_putM, z_putO, z_putV, z_r1K, z_r2K, z_r2K2, z_rdB, z_rdK, z_rdK2, z_rdM, z_reK, z_ret, z_retI, z_retN, z_rg1, z_rg2, z_rgI1, z_rgI2, z_rtV, z_saI, z_saO, z_seqB, z_seqC, z_seqN, z_seqR, z_sl, z_slK, z_slK2, z_slK3, z_slice, z_suB, z_suK, z_tK, z_tO, z_tV, z_tbK, z_tnK, z_truB, z_truI, z_truK, z_truL, z_truN, z_truT, z_tst, z_tuK, z_tupL, z_tupT, z_unK, z_vO, z_vS, z_vV, z_vals, z_vals0, z_wpB, z_wpO, z_yes, List.set_cons_zero, List.set_cons_succ, List.getElem?_cons_zero, List.getElem?_cons_succ, List.length_cons, List.length_nil, Bool.not_true, Bool.not_false, if_true, if_false, Bool.false_eq_true, reduceCtorEq, and_self, and_true, true_and, y_addI, y_sub, y_lt, y_gt, y_le, y_ge, y_neg, y_eqI, y_neI, Nat.reduceAdd, Nat.reduceLT, Nat.reduceLeDiff, decide_eq_true_eq, sz, Nat.zero_le, dn_len, List.isEmpty_cons, List.isEmpty_nil, List.cons_append, List.nil_append, List.all_cons, List.all_nil, Bool.and_true, Bool.true_and, Bool.and_self, h8, h23, says_ok]
      exact ⟨vals, .val d, rfl⟩
    · obtain ⟨vals, t8, rfl⟩ := hI
      by_cases h5 : w = 5
      · have c5 : (w : Int) = 5 := by omega
        simp only [z_And, z_AndV, z_Args, z_Args0, z_Asg, z_BV, z_Bin, z_Break, z_C, z_CallB, z_Chain, z_Comp, z_Cont, z_DGet, z_DIn, z_DPut, z_Enum, z_Expr, z_For, z_Group, z_If, z_It, z_List, z_Meth, z_NewK, z_NewT, z_Next, z_Nm, z_NoP, z_Not, z_Op, z_Or, z_OrV, z_P, z_Par, z_Pass, z_Pk, z_Read, z_Ret, z_RetN, z_Rg1, z_Rg2, z_SIf, z_Seq, z_Sl, z_Sub, z_TB, z_Take, z_Tru, z_Tu, z_Tup, z_Turn, z_Un, z_Var, z_abs, z_agK, z_andF, z_andT, z_andVF, z_andVT, z_apI, z_apO, z_app1, z_app2, z_appA, z_ar1, z_ar2, z_arK, z_arK2, z_argP, z_argS, z_argV, z_args, z_args0, z_asK, z_asK2, z_atI, z_atK, z_atO, z_atV, z_augE, z_augF, z_binK, z_binK2, z_bvK, z_callE, z_cbK, z_chK, z_chK2, z_chain2, z_chnF, z_chnT, z_clB, z_clK, z_coK, z_dgK, z_dgK2, z_dget, z_diK, z_diK2, z_din, z_dispL, z_dispT, z_dvget, z_exK, z_exc, z_go, z_go0, z_goK, z_gotD, z_gotIn, z_grK, z_ifF, z_ifT, z_ifVF, z_ifVT, z_int, z_intB, z_io0, z_ioP, z_ioS, z_ioV, z_isL, z_isO, z_itE, z_itL, z_itS, z_itT, z_kpO, z_kpV, z_lenL, z_lenT, z_liK, z_lisL, z_lisT, z_lkK, z_look0, z_look1, z_lookD, z_lookDK, z_lookP, z_lookV, z_mCall, z_meB, z_meI, z_meK, z_meO, z_meR, z_no, z_notK, z_npK, z_npO, z_npS, z_npV, z_ok, z_one0, z_oneP, z_oneS, z_oneV, z_opO, z_opP, z_opS, z_opV, z_orF, z_orT, z_orVF, z_orVT, z_pI, z_paB, z_paK, z_paK2, z_pkK, z_puB, z_puK, z_putI, z_putM, z_putO, z_putV, z_r1K, z_r2K, z_r2K2, z_rdB, z_rdK, z_rdK2, z_rdM, z_reK, z_ret, z_retI, z_retN, z_rg1, z_rg2, z_rgI1, z_rgI2, z_rtV, z_saI, z_saO, z_seqB, z_seqC, z_seqN, z_seqR, z_sl, z_slK, z_slK2, z_slK3, z_slice, z_suB, z_suK, z_tK, z_tO, z_tV, z_tbK, z_tnK, z_truB, z_truI, z_truK, z_truL, z_truN, z_truT, z_tst, z_tuK, z_tupL, z_tupT, z_unK, z_vO, z_vS, z_vV, z_vals, z_vals0, z_wpB, z_wpO, z_yes, List.set_cons_zero, List.set_cons_succ, List.getElem?_cons_zero, List.getElem?_cons_succ, List.length_cons, List.length_nil, Bool.not_true, Bool.not_false, if_true, if_false, Bool.false_eq_true, reduceCtorEq, and_self, and_true, true_and, y_addI, y_sub, y_lt, y_gt, y_le, y_ge, y_neg, y_eqI, y_neI, Nat.reduceAdd, Nat.reduceLT, Nat.reduceLeDiff, decide_eq_true_eq, sz, Nat.zero_le, dn_len, List.isEmpty_cons, List.isEmpty_nil, List.cons_append, List.nil_append, List.all_cons, List.all_nil, Bool.and_true, Bool.true_and, Bool.and_self, decide_eq_true c5]
        rfl
      · have c5 : ¬ (w : Int) = 5 := by omega
        have hn2 : n ≤ 16 := by
          rw [← hn]
          exact Nat.pow_le_pow_right (n := 2) (by omega) (show w ≤ 4 by omega)
        obtain ⟨_, b, _, LB⟩ := least_ok (q := p) Pp hn1.1 hn2
        simp only [z_And, z_AndV, z_Args, z_Args0, z_Asg, z_BV, z_Bin, z_Break, z_C, z_CallB, z_Chain, z_Comp, z_Cont, z_DGet, z_DIn, z_DPut, z_Enum, z_Expr, z_For, z_Group, z_If, z_It, z_List, z_Meth, z_NewK, z_NewT, z_Next, z_Nm, z_NoP, z_Not, z_Op, z_Or, z_OrV, z_P, z_Par, z_Pass, z_Pk, z_Read, z_Ret, z_RetN, z_Rg1, z_Rg2, z_SIf, z_Seq, z_Sl, z_Sub, z_TB, z_Take, z_Tru, z_Tu, z_Tup, z_Turn, z_Un, z_Var, z_abs, z_agK, z_andF, z_andT, z_andVF, z_andVT, z_apI, z_apO, z_app1, z_app2, z_appA, z_ar1, z_ar2, z_arK, z_arK2, z_argP, z_argS, z_argV, z_args, z_args0, z_asK, z_asK2, z_atI, z_atK, z_atO, z_atV, z_augE, z_augF, z_binK, z_binK2, z_bvK, z_callE, z_cbK, z_chK, z_chK2, z_chain2, z_chnF, z_chnT, z_clB, z_clK, z_coK, z_dgK, z_dgK2, z_dget, z_diK, z_diK2, z_din, z_dispL, z_dispT, z_dvget, z_exK, z_exc, z_go, z_go0, z_goK, z_gotD, z_gotIn, z_grK, z_ifF, z_ifT, z_ifVF, z_ifVT, z_int, z_intB, z_io0, z_ioP, z_ioS, z_ioV, z_isL, z_isO, z_itE, z_itL, z_itS, z_itT, z_kpO, z_kpV, z_lenL, z_lenT, z_liK, z_lisL, z_lisT, z_lkK, z_look0, z_look1, z_lookD, z_lookDK, z_lookP, z_lookV, z_mCall, z_meB, z_meI, z_meK, z_meO, z_meR, z_no, z_notK, z_npK, z_npO, z_npS, z_npV, z_ok, z_one0, z_oneP, z_oneS, z_oneV, z_opO, z_opP, z_opS, z_opV, z_orF, z_orT, z_orVF, z_orVT, z_pI, z_paB, z_paK, z_paK2, z_pkK, z_puB, z_puK, z_putI, z_putM, z_putO, z_putV, z_r1K, z_r2K, z_r2K2, z_rdB, z_rdK, z_rdK2, z_rdM, z_reK, z_ret, z_retI, z_retN, z_rg1, z_rg2, z_rgI1, z_rgI2, z_rtV, z_saI, z_saO, z_seqB, z_seqC, z_seqN, z_seqR, z_sl, z_slK, z_slK2, z_slK3, z_slice, z_suB, z_suK, z_tK, z_tO, z_tV, z_tbK, z_tnK, z_truB, z_truI, z_truK, z_truL, z_truN, z_truT, z_tst, z_tuK, z_tupL, z_tupT, z_unK, z_vO, z_vS, z_vV, z_vals, z_vals0, z_wpB, z_wpO, z_yes, List.set_cons_zero, List.set_cons_succ, List.getElem?_cons_zero, List.getElem?_cons_succ, List.length_cons, List.length_nil, Bool.not_true, Bool.not_false, if_true, if_false, Bool.false_eq_true, reduceCtorEq, and_self, and_true, true_and, y_addI, y_sub, y_lt, y_gt, y_le, y_ge, y_neg, y_eqI, y_neI, Nat.reduceAdd, Nat.reduceLT, Nat.reduceLeDiff, decide_eq_true_eq, sz, Nat.zero_le, dn_len, List.isEmpty_cons, List.isEmpty_nil, List.cons_append, List.nil_append, List.all_cons, List.all_nil, Bool.and_true, Bool.true_and, Bool.and_self, decide_eq_false c5]
        refine while_P (fun m e => ∃ j : Nat, e = [.scr ns, .own ds6, .val (.int (w : Int)), .val (.tuple (dn p)), .val (.tuple (dn o)), .val (.tuple [.tuple (dn A), .tuple (dn B)]), .val (.tuple (dn (List.range n))), .own vals, t8, .own (lts (pws p n j)), .val (.tuple (dn (pw p n j))), .no, .no, .no] ∧ m = b - j ∧ 1 ≤ j ∧ j ≤ b ∧ ∀ i, 1 ≤ i → i < j → pw p n i ≠ List.range n)
          (m := b - 1) (by have := LB.ble; omega) ⟨1, by rw [pws_one, pw_one Pp], rfl, Nat.le_refl 1, LB.bp, fun i h1 h2 => absurd h1 (by omega)⟩ fun m e h => ?_
        obtain ⟨j, rfl, rfl, j1, jb, jm⟩ := h
        have jble := LB.ble
        refine ⟨!decide (pw p n j = List.range n), _, by simp only [z_And, z_AndV, z_Args, z_Args0, z_Asg, z_BV, z_Bin, z_Break, z_C, z_CallB, z_Chain, z_Comp, z_Cont, z_DGet, z_DIn, z_DPut, z_Enum, z_Expr, z_For, z_Group, z_If, z_It, z_List, z_Meth, z_NewK, z_NewT, z_Next, z_Nm, z_NoP, z_Not, z_Op, z_Or, z_OrV, z_P, z_Par, z_Pass, z_Pk, z_Read, z_Ret, z_RetN, z_Rg1, z_Rg2, z_SIf, z_Seq, z_Sl, z_Sub, z_TB, z_Take, z_Tru, z_Tu, z_Tup, z_Turn, z_Un, z_Var, z_abs, z_agK, z_andF, z_andT, z_andVF, z_andVT, z_apI, z_apO, z_app1, z_app2, z_appA, z_ar1, z_ar2, z_arK, z_arK2, z_argP, z_argS, z_argV, z_args, z_args0, z_asK, z_asK2, z_atI, z_atK, z_atO, z_atV, z_augE, z_augF, z_binK, z_binK2, z_bvK, z_callE, z_cbK, z_chK, z_chK2, z_chain2, z_chnF, z_chnT, z_clB, z_clK, z_coK, z_dgK, z_dgK2, z_dget, z_diK, z_diK2, z_din, z_dispL, z_dispT, z_dvget, z_exK, z_exc, z_go, z_go0, z_goK, z_gotD, z_gotIn, z_grK, z_ifF, z_ifT, z_ifVF, z_ifVT, z_int, z_intB, z_io0, z_ioP, z_ioS, z_ioV, z_isL, z_isO, z_itE, z_itL, z_itS, z_itT, z_kpO, z_kpV, z_lenL, z_lenT, z_liK, z_lisL, z_lisT, z_lkK, z_look0, z_look1, z_lookD, z_lookDK, z_lookP, z_lookV, z_mCall, z_meB, z_meI, z_meK, z_meO, z_meR, z_no, z_notK, z_npK, z_npO, z_npS, z_npV, z_ok, z_one0, z_oneP, z_oneS, z_oneV, z_opO, z_opP, z_opS, z_opV, z_orF, z_orT, z_orVF, z_orVT, z_pI, z_paB, z_paK, z_paK2, z_pkK, z_puB, z_puK, z_putI, z_putM, z_putO, z_putV, z_r1K, z_r2K, z_r2K2, z_rdB, z_rdK, z_rdK2, z_rdM, z_reK, z_ret, z_retI, z_retN, z_rg1, z_rg2, z_rgI1, z_rgI2, z_rtV, z_saI, z_saO, z_seqB, z_seqC, z_seqN, z_seqR, z_sl, z_slK, z_slK2, z_slK3, z_slice, z_suB, z_suK, z_tK, z_tO, z_tV, z_tbK, z_tnK, z_truB, z_truI, z_truK, z_truL, z_truN, z_truT, z_tst, z_tuK, z_tupL, z_tupT, z_unK, z_vO, z_vS, z_vV, z_vals, z_vals0, z_wpB, z_wpO, z_yes, List.set_cons_zero, List.set_cons_succ, List.getElem?_cons_zero, List.getElem?_cons_succ, List.length_cons, List.length_nil, Bool.not_true, Bool.not_false, if_true, if_false, Bool.false_eq_true, reduceCtorEq, and_self, and_true, true_and, y_addI, y_sub, y_lt, y_gt, y_le, y_ge, y_neg, y_eqI, y_neI, Nat.reduceAdd, Nat.reduceLT, Nat.reduceLeDiff, decide_eq_true_eq, sz, Nat.zero_le, dn_len, List.isEmpty_cons, List.isEmpty_nil, List.cons_append, List.nil_append, List.all_cons, List.all_nil, Bool.and_true, Bool.true_and, Bool.and_self, neT]; rfl, fun hc => ?_, fun hc => ?_⟩
        · have hne : pw p n j ≠ List.range n := fun z => by rw [decide_eq_true z] at hc; cases hc
          have jlt : j < b := by
            by_cases h : j = b
            · subst h; exact absurd LB.per hne
            · omega
          have bo := (behind_ok (a := pw p n j) (b := p) (n := n) (by rw [pw_len]; omega) (pw_mem Pp)).1
          rw [pw_succ] at bo
          have ap := appD (p := lts (pws p n j)) (d := .tuple (dn (pw p n j))) (by rw [lts_len]; unfold pws; rw [List.length_map, List.length_range]; omega)
          rw [pws_succ] at ap
          simp only [z_And, z_AndV, z_Args, z_Args0, z_Asg, z_BV, z_Bin, z_Break, z_C, z_CallB, z_Chain, z_Comp, z_Cont, z_DGet, z_DIn, z_DPut, z_Enum, z_Expr, z_For, z_Group, z_If, z_It, z_List, z_Meth, z_NewK, z_NewT, z_Next, z_Nm, z_NoP, z_Not, z_Op, z_Or, z_OrV, z_P, z_Par, z_Pass, z_Pk, z_Read, z_Ret, z_RetN, z_Rg1, z_Rg2, z_SIf, z_Seq, z_Sl, z_Sub, z_TB, z_Take, z_Tru, z_Tu, z_Tup, z_Turn, z_Un, z_Var, z_abs, z_agK, z_andF, z_andT, z_andVF, z_andVT, z_apI, z_apO, z_app1, z_app2, z_appA, z_ar1, z_ar2, z_arK, z_arK2, z_argP, z_argS, z_argV, z_args, z_args0, z_asK, z_asK2, z_atI, z_atK, z_atO, z_atV, z_augE, z_augF, z_binK, z_binK2, z_bvK, z_callE, z_cbK, z_chK, z_chK2, z_chain2, z_chnF, z_chnT, z_clB, z_clK, z_coK, z_dgK, z_dgK2, z_dget, z_diK, z_diK2, z_din, z_dispL, z_dispT, z_dvget, z_exK, z_exc, z_go, z_go0, z_goK, z_gotD, z_gotIn, z_grK, z_ifF, z_ifT, z_ifVF, z_ifVT, z_int, z_intB, z_io0, z_ioP, z_ioS, z_ioV, z_isL, z_isO, z_itE, z_itL, z_itS, z_itT, z_kpO, z_kpV, z_lenL, z_lenT, z_liK, z_lisL, z_lisT, z_lkK, z_look0, z_look1, z_lookD, z_lookDK, z_lookP, z_lookV, z_mCall, z_meB, z_meI, z_meK, z_meO, z_meR, z_no, z_notK, z_npK, z_npO, z_npS, z_npV, z_ok, z_one0, z_oneP, z_oneS, z_oneV, z_opO, z_opP, z_opS, z_opV, z_orF, z_orT, z_orVF, z_orVT, z_pI, z_paB, z_paK, z_paK2, z_pkK, z_puB, z_puK, z_putI, z_putM, z_putO, z_putV, z_r1K, z_r2K, z_r2K2, z_rdB, z_rdK, z_rdK2, z_rdM, z_reK, z_ret, z_retI, z_retN, z_rg1, z_rg2, z_rgI1, z_rgI2, z_rtV, z_saI, z_saO, z_seqB, z_seqC, z_seqN, z_seqR, z_sl, z_slK, z_slK2, z_slK3, z_slice, z_suB, z_suK, z_tK, z_tO, z_tV, z_tbK, z_tnK, z_truB, z_truI, z_truK, z_truL, z_truN, z_truT, z_tst, z_tuK, z_tupL, z_tupT, z_unK, z_vO, z_vS, z_vV, z_vals, z_vals0, z_wpB, z_wpO, z_yes, List.set_cons_zero, List.set_cons_succ, List.getElem?_cons_zero, List.getElem?_cons_succ, List.length_cons, List.length_nil, Bool.not_true, Bool.not_false, if_true, if_false, Bool.false_eq_true, reduceCtorEq, and_self, and_true, true_and, y_addI, y_sub, y_lt, y_gt, y_le, y_ge, y_neg, y_eqI, y_neI, Nat.reduceAdd, Nat.reduceLT, Nat.reduceLeDiff, decide_eq_true_eq, sz, Nat.zero_le, dn_len, List.isEmpty_cons, List.isEmpty_nil, List.cons_append, List.nil_append, List.all_cons, List.all_nil, Bool.and_true, Bool.true_and, Bool.and_self, ap, bo]
          refine ⟨b - (j + 1), by omega, j + 1, rfl, rfl, by omega, by omega, fun i h1 h2 => ?_⟩
          by_cases h : i = j
          · subst h; exact hne
          · exact jm i h1 (by omega)
        · have heq : pw p n j = List.range n := by simpa using hc
          have pl : (pws p n j).length = j := by unfold pws; rw [List.length_map, List.length_range]
          obtain ⟨r7, ds7, ht7, r70, r71, D7⟩ := take_ok (many := ((lts (pws p n j)).length : Int)) D6 (by rw [lts_len, pl]; omega) (by rw [lts_len, pl]; omega)
          obtain ⟨g0, hg0⟩ := lts_at (Q := pws p n j) r70 (by rw [lts_len] at r71; exact r71)
          simp only [z_And, z_AndV, z_Args, z_Args0, z_Asg, z_BV, z_Bin, z_Break, z_C, z_CallB, z_Chain, z_Comp, z_Cont, z_DGet, z_DIn, z_DPut, z_Enum, z_Expr, z_For, z_Group, z_If, z_It, z_List, z_Meth, z_NewK, z_NewT, z_Next, z_Nm, z_NoP, z_Not, z_Op, z_Or, z_OrV, z_P, z_Par, z_Pass, z_Pk, z_Read, z_Ret, z_RetN, z_Rg1, z_Rg2, z_SIf, z_Seq, z_Sl, z_Sub, z_TB, z_Take, z_Tru, z_Tu, z_Tup, z_Turn, z_Un, z_Var, z_abs, z_agK, z_andF, z_andT, z_andVF, z_andVT, z_apI, z_apO, z_app1, z_app2, z_appA, z_ar1, z_ar2, z_arK, z_arK2, z_argP, z_argS, z_argV, z_args, z_args0, z_asK, z_asK2, z_atI, z_atK, z_atO, z_atV, z_augE, z_augF, z_binK, z_binK2, z_bvK, z_callE, z_cbK, z_chK, z_chK2, z_chain2, z_chnF, z_chnT, z_clB, z_clK, z_coK, z_dgK, z_dgK2, z_dget, z_diK, z_diK2, z_din, z_dispL, z_dispT, z_dvget, z_exK, z_exc, z_go, z_go0, z_goK, z_gotD, z_gotIn, z_grK, z_ifF, z_ifT, z_ifVF, z_ifVT, z_int, z_intB, z_io0, z_ioP, z_ioS, z_ioV, z_isL, z_isO, z_itE, z_itL, z_itS, z_itT, z_kpO, z_kpV, z_lenL, z_lenT, z_liK, z_lisL, z_lisT, z_lkK, z_look0, z_look1, z_lookD, z_lookDK, z_lookP, z_lookV, z_mCall, z_meB, z_meI, z_meK, z_meO, z_meR, z_no, z_notK, z_npK, z_npO, z_npS, z_npV, z_ok, z_one0, z_oneP, z_oneS, z_oneV, z_opO, z_opP, z_opS, z_opV, z_orF, z_orT, z_orVF, z_orVT, z_pI, z_paB, z_paK, z_paK2, z_pkK, z_puB, z_puK, z_putI, z_putM, z_putO, z_putV, z_r1K, z_r2K, z_r2K2, z_rdB, z_rdK, z_rdK2, z_rdM, z_reK, z_ret, z_retI, z_retN, z_rg1, z_rg2, z_rgI1, z_rgI2, z_rtV, z_saI, z_saO, z_seqB, z_seqC, z_seqN, z_seqR, z_sl, z_slK, z_slK2, z_slK3, z_slice, z_suB, z_suK, z_tK, z_tO, z_tV, z_tbK, z_tnK, z_truB, z_truI, z_truK, z_truL, z_truN, z_truT, z_tst, z_tuK, z_tupL, z_tupT, z_unK, z_vO, z_vS, z_vV, z_vals, z_vals0, z_wpB, z_wpO, z_yes, List.set_cons_zero, List.set_cons_succ, List.getElem?_cons_zero, List.getElem?_cons_succ, List.length_cons, List.length_nil, Bool.not_true, Bool.not_false, if_true, if_false, Bool.false_eq_true, reduceCtorEq, and_self, and_true, true_and, y_addI, y_sub, y_lt, y_gt, y_le, y_ge, y_neg, y_eqI, y_neI, Nat.reduceAdd, Nat.reduceLT, Nat.reduceLeDiff, decide_eq_true_eq, sz, Nat.zero_le, dn_len, List.isEmpty_cons, List.isEmpty_nil, List.cons_append, List.nil_append, List.all_cons, List.all_nil, Bool.and_true, Bool.true_and, Bool.and_self, ht7, hg0]
          refine forL_P (fun _ e => ∃ (t11 t12 t13 : Sl), e = [.scr ns, .own ds7, .val (.int (w : Int)), .val (.tuple (dn p)), .val (.tuple (dn o)), .val (.tuple [.tuple (dn A), .tuple (dn B)]), .val (.tuple (dn (List.range n))), .own vals, t8, .own (lts (pws p n j)), .val (.tuple (dn (pw p n j))), t11, t12, t13]) (fun i d e hd hI => ?_) (fun e hI => ?_) ⟨.no, .no, .no, rfl⟩
          · obtain ⟨t11, t12, t13, rfl⟩ := hI
            have hm := List.mem_of_getElem? hd
            have hg : ∃ g, d = .tuple (dn g) := by
              simp only [List.mem_cons, List.not_mem_nil, or_false] at hm
              rcases hm with rfl | rfl | rfl | rfl
              · exact ⟨_, rfl⟩
              · exact ⟨_, rfl⟩
              · exact ⟨_, rfl⟩
              · exact ⟨_, rfl⟩
            obtain ⟨g, rfl⟩ := hg
            obtain ⟨v, b', hf, LG⟩ := least_ok (q := g) Pp hn1.1 hn2
            rcases LG.ans with ⟨k, k1, k2, k3, rfl⟩ | ⟨rfl, k3⟩
            · have kj : k < j := by
                by_cases h : k < j
                · exact h
                · have := pw_back heq (k := k) (by omega)
                  exact absurd (this.symm.trans k2) (k3 (k - j) (by omega))
              have hmem : g ∈ pws p n j := by
                rw [← k2]
                exact List.mem_of_getElem? (pws_at kj)
              have hix := index_lts (g := g) (Q := pws p n j) (k := k) (by rw [pws_at kj, k2]) fun i hi => by
                rw [pws_at (by omega)]
                exact fun z => k3 i hi (Option.some.inj z)
              have isN : fIsNot (.int (k : Int)) .none = some (.val (.bool true)) := rfl
              have ii := isi_nd (g := isInt) (d := .int (k : Int)) rfl
              have ii2 : isInt (.int (k : Int)) = true := rfl
              have ib := isi_nd (g := isBool) (d := .int (k : Int)) rfl
              have ib2 : isBool (.int (k : Int)) = false := rfl
              simp only [z_And, z_AndV, z_Args, z_Args0, z_Asg, z_BV, z_Bin, z_Break, z_C, z_CallB, z_Chain, z_Comp, z_Cont, z_DGet, z_DIn, z_DPut, z_Enum, z_Expr, z_For, z_Group, z_If, z_It, z_List, z_Meth, z_NewK, z_NewT, z_Next, z_Nm, z_NoP, z_Not, z_Op, z_Or, z_OrV, z_P, z_Par, z_Pass, z_Pk, z_Read, z_Ret, z_RetN, z_Rg1, z_Rg2, z_SIf, z_Seq, z_Sl, z_Sub, z_TB, z_Take, z_Tru, z_Tu, z_Tup, z_Turn, z_Un, z_Var, z_abs, z_agK, z_andF, z_andT, z_andVF, z_andVT, z_apI, z_apO, z_app1, z_app2, z_appA, z_ar1, z_ar2, z_arK, z_arK2, z_argP, z_argS, z_argV, z_args, z_args0, z_asK, z_asK2, z_atI, z_atK, z_atO, z_atV, z_augE, z_augF, z_binK, z_binK2, z_bvK, z_callE, z_cbK, z_chK, z_chK2, z_chain2, z_chnF, z_chnT, z_clB, z_clK, z_coK, z_dgK, z_dgK2, z_dget, z_diK, z_diK2, z_din, z_dispL, z_dispT, z_dvget, z_exK, z_exc, z_go, z_go0, z_goK, z_gotD, z_gotIn, z_grK, z_ifF, z_ifT, z_ifVF, z_ifVT, z_int, z_intB, z_io0, z_ioP, z_ioS, z_ioV, z_isL, z_isO, z_itE, z_itL, z_itS, z_itT, z_kpO, z_kpV, z_lenL, z_lenT, z_liK, z_lisL, z_lisT, z_lkK, z_look0, z_look1, z_lookD, z_lookDK, z_lookP, z_lookV, z_mCall, z_meB, z_meI, z_meK, z_meO, z_meR, z_no, z_notK, z_npK, z_npO, z_npS, z_npV, z_ok, z_one0, z_oneP, z_oneS, z_oneV, z_opO, z_opP, z_opS, z_opV, z_orF, z_orT, z_orVF, z_orVT, z_pI, z_paB, z_paK, z_paK2, z_pkK, z_puB, z_puK, z_putI, z_putM, z_putO, z_putV, z_r1K, z_r2K, z_r2K2, z_rdB, z_rdK, z_rdK2, z_rdM, z_reK, z_ret, z_retI, z_retN, z_rg1, z_rg2, z_rgI1, z_rgI2, z_rtV, z_saI, z_saO, z_seqB, z_seqC, z_seqN, z_seqR, z_sl, z_slK, z_slK2, z_slK3, z_slice, z_suB, z_suK, z_tK, z_tO, z_tV, z_tbK, z_tnK, z_truB, z_truI, z_truK, z_truL, z_truN, z_truT, z_tst, z_tuK, z_tupL, z_tupT, z_unK, z_vO, z_vS, z_vV, z_vals, z_vals0, z_wpB, z_wpO, z_yes, List.set_cons_zero, List.set_cons_succ, List.getElem?_cons_zero, List.getElem?_cons_succ, List.length_cons, List.length_nil, Bool.not_true, Bool.not_false, if_true, if_false, Bool.false_eq_true, reduceCtorEq, and_self, and_true, true_and, y_addI, y_sub, y_lt, y_gt, y_le, y_ge, y_neg, y_eqI, y_neI, Nat.reduceAdd, Nat.reduceLT, Nat.reduceLeDiff, decide_eq_true_eq, sz, Nat.zero_le, dn_len, List.isEmpty_cons, List.isEmpty_nil, List.cons_append, List.nil_append, List.all_cons, List.all_nil, Bool.and_true, Bool.true_and, Bool.and_self, in_lts, decide_eq_true hmem, hix, hf, isN, ii, ii2, ib, ib2, decide_true]
              exact ⟨_, _, _, rfl⟩
            · have hmem : g ∉ pws p n j := fun h => by
                obtain ⟨i, hi, e⟩ := List.mem_map.mp h
                rw [List.mem_range] at hi
                by_cases hib : i < b'
                · exact k3 i hib e
                · exact jm b' LG.bp (by omega) LG.per
              have isN : fIsNot .none .none = some (.val (.bool false)) := rfl
              simp only [z_And, z_AndV, z_Args, z_Args0, z_Asg, z_BV, z_Bin, z_Break, z_C, z_CallB, z_Chain, z_Comp, z_Cont, z_DGet, z_DIn, z_DPut, z_Enum, z_Expr, z_For, z_Group, z_If, z_It, z_List, z_Meth, z_NewK, z_NewT, z_Next, z_Nm, z_NoP, z_Not, z_Op, z_Or, z_OrV, z_P, z_Par, z_Pass, z_Pk, z_Read, z_Ret, z_RetN, z_Rg1, z_Rg2, z_SIf, z_Seq, z_Sl, z_Sub, z_TB, z_Take, z_Tru, z_Tu, z_Tup, z_Turn, z_Un, z_Var, z_abs, z_agK, z_andF, z_andT, z_andVF, z_andVT, z_apI, z_apO, z_app1, z_app2, z_appA, z_ar1, z_ar2, z_arK, z_arK2, z_argP, z_argS, z_argV, z_args, z_args0, z_asK, z_asK2, z_atI, z_atK, z_atO, z_atV, z_augE, z_augF, z_binK, z_binK2, z_bvK, z_callE, z_cbK, z_chK, z_chK2, z_chain2, z_chnF, z_chnT, z_clB, z_clK, z_coK, z_dgK, z_dgK2, z_dget, z_diK, z_diK2, z_din, z_dispL, z_dispT, z_dvget, z_exK, z_exc, z_go, z_go0, z_goK, z_gotD, z_gotIn, z_grK, z_ifF, z_ifT, z_ifVF, z_ifVT, z_int, z_intB, z_io0, z_ioP, z_ioS, z_ioV, z_isL, z_isO, z_itE, z_itL, z_itS, z_itT, z_kpO, z_kpV, z_lenL, z_lenT, z_liK, z_lisL, z_lisT, z_lkK, z_look0, z_look1, z_lookD, z_lookDK, z_lookP, z_lookV, z_mCall, z_meB, z_meI, z_meK, z_meO, z_meR, z_no, z_notK, z_npK, z_npO, z_npS, z_npV, z_ok, z_one0, z_oneP, z_oneS, z_oneV, z_opO, z_opP, z_opS, z_opV, z_orF, z_orT, z_orVF, z_orVT, z_pI, z_paB, z_paK, z_paK2, z_pkK, z_puB, z_puK, z_putI, z_putM, z_putO, z_putV, z_r1K, z_r2K, z_r2K2, z_rdB, z_rdK, z_rdK2, z_rdM, z_reK, z_ret, z_retI, z_retN, z_rg1, z_rg2, z_rgI1, z_rgI2, z_rtV, z_saI, z_saO, z_seqB, z_seqC, z_seqN, z_seqR, z_sl, z_slK, z_slK2, z_slK3, z_slice, z_suB, z_suK, z_tK, z_tO, z_tV, z_tbK, z_tnK, z_truB, z_truI, z_truK, z_truL, z_truN, z_truT, z_tst, z_tuK, z_tupL, z_tupT, z_unK, z_vO, z_vS, z_vV, z_vals, z_vals0, z_wpB, z_wpO, z_yes, List.set_cons_zero, List.set_cons_succ, List.getElem?_cons_zero, List.getElem?_cons_succ, List.length_cons, List.length_nil, Bool.not_true, Bool.not_false, if_true, if_false, Bool.false_eq_true, reduceCtorEq, and_self, and_true, true_and, y_addI, y_sub, y_lt, y_gt, y_le, y_ge, y_neg, y_eqI, y_neI, Nat.reduceAdd, Nat.reduceLT, Nat.reduceLeDiff, decide_eq_true_eq, sz, Nat.zero_le, dn_len, List.isEmpty_cons, List.isEmpty_nil, List.cons_append, List.nil_append, List.all_cons, List.all_nil, Bool.and_true, Bool.true_and, Bool.and_self, in_lts, decide_eq_false hmem, hf, isN, neNN]
              exact ⟨_, _, _, rfl⟩
          · obtain ⟨t11, t12, t13, rfl⟩ := hI
            simp only [z_And, z_AndV, z_Args, z_Args0, z_Asg, z_BV, z_Bin, z_Break, z_C, z_CallB, z_Chain, z_Comp, z_Cont, z_DGet, z_DIn, z_DPut, z_Enum, z_Expr, z_For, z_Group, z_If, z_It, z_List, z_Meth, z_NewK, z_NewT, z_Next, z_Nm, z_NoP, z_Not, z_Op, z_Or, z_OrV, z_P, z_Par, z_Pass, z_Pk, z_Read, z_Ret, z_RetN, z_Rg1, z_Rg2, z_SIf, z_Seq, z_Sl, z_Sub, z_TB, z_Take, z_Tru, z_Tu, z_Tup, z_Turn, z_Un, z_Var, z_abs, z_agK, z_andF, z_andT, z_andVF, z_andVT, z_apI, z_apO, z_app1, z_app2, z_appA, z_ar1, z_ar2, z_arK, z_arK2, z_argP, z_argS, z_argV, z_args, z_args0, z_asK, z_asK2, z_atI, z_atK, z_atO, z_atV, z_augE, z_augF, z_binK, z_binK2, z_bvK, z_callE, z_cbK, z_chK, z_chK2, z_chain2, z_chnF, z_chnT, z_clB, z_clK, z_coK, z_dgK, z_dgK2, z_dget, z_diK, z_diK2, z_din, z_dispL, z_dispT, z_dvget, z_exK, z_exc, z_go, z_go0, z_goK, z_gotD, z_gotIn, z_grK, z_ifF, z_ifT, z_ifVF, z_ifVT, z_int, z_intB, z_io0, z_ioP, z_ioS, z_ioV, z_isL, z_isO, z_itE, z_itL, z_itS, z_itT, z_kpO, z_kpV, z_lenL, z_lenT, z_liK, z_lisL, z_lisT, z_lkK, z_look0, z_look1, z_lookD, z_lookDK, z_lookP, z_lookV, z_mCall, z_meB, z_meI, z_meK, z_meO, z_meR, z_no, z_notK, z_npK, z_npO, z_npS, z_npV, z_ok, z_one0, z_oneP, z_oneS, z_oneV, z_opO, z_opP, z_opS, z_opV, z_orF, z_orT, z_orVF, z_orVT, z_pI, z_paB, z_paK, z_paK2, z_pkK, z_puB, z_puK, z_putI, z_putM, z_putO, z_putV, z_r1K, z_r2K, z_r2K2, z_rdB, z_rdK, z_rdK2, z_rdM, z_reK, z_ret, z_retI, z_retN, z_rg1, z_rg2, z_rgI1, z_rgI2, z_rtV, z_saI, z_saO, z_seqB, z_seqC, z_seqN, z_seqR, z_sl, z_slK, z_slK2, z_slK3, z_slice, z_suB, z_suK, z_tK, z_tO, z_tV, z_tbK, z_tnK, z_truB, z_truI, z_truK, z_truL, z_truN, z_truT, z_tst, z_tuK, z_tupL, z_tupT, z_unK, z_vO, z_vS, z_vV, z_vals, z_vals0, z_wpB, z_wpO, z_yes, List.set_cons_zero, List.set_cons_succ, List.getElem?_cons_zero, List.getElem?_cons_succ, List.length_cons, List.length_nil, Bool.not_true, Bool.not_false, if_true, if_false, Bool.false_eq_true, reduceCtorEq, and_self, and_true, true_and, y_addI, y_sub, y_lt, y_gt, y_le, y_ge, y_neg, y_eqI, y_neI, Nat.reduceAdd, Nat.reduceLT, Nat.reduceLeDiff, decide_eq_true_eq, sz, Nat.zero_le, dn_len, List.isEmpty_cons, List.isEmpty_nil, List.cons_append, List.nil_append, List.all_cons, List.all_nil, Bool.and_true, Bool.true_and, Bool.and_self]
            rfl
  obtain ⟨r, io, h, rfl⟩ := ok_of_P key
  rw [h]
  rfl
end VP
open PySem PySem.W PyProof.Rows
set_option maxRecDepth 100000 in
set_option maxHeartbeats 0 in
theorem PySem.Challenge.cw_backandon_k79_whole_two_turns_holds : PySem.Challenge.rw_backandon_k79_whole_two_turns.Holds := by
  w_on; o_law; k_head; (case hw => w_witness2)
  k_fill
  refine VL.walk_fn (l := PySem.Challenge.rw_backandon_k79_whole_two_turns) (k := 7) (fn := VP.fn_24) (st := VP.s_24) rfl rfl ⟨rfl, by decide, by decide⟩ (fun w h Y => PySem.W.kIn_of Y) rfl (fun _ _ _ _ _ _ s v => .of_eq rfl) VP.math ?F
  case F =>
    intro w mg h KX G
    refine' VP.fin KX G ?d1 ?d2 ?d3 ?d4 ?d5 ?d6 ?d7 ?d8 ?d9 ?d10 ?d12 ?d13 ?d14 ?d15 ?d18 ?d20 ?d22 ?d23 ?d24 ?z_abs ?z_all ?z_bool ?z_enumerate ?z_int ?z_isinstance ?z_len ?z_list ?z_min ?z_range ?z_sorted ?z_tuple
    (case d1 => refine' VL.def_mk ?a ?l ?c ?k; (case a => k_is); (case l => k_is); (case c => k_is); (case k => k_is))
    (case d2 => refine' VL.def_mk ?a ?l ?c ?k; (case a => k_is); (case l => k_is); (case c => k_is); (case k => k_is))
    (case d3 => refine' VL.def_mk ?a ?l ?c ?k; (case a => k_is); (case l => k_is); (case c => k_is); (case k => k_is))
    (case d4 => refine' VL.def_mk ?a ?l ?c ?k; (case a => k_is); (case l => k_is); (case c => k_is); (case k => k_is))
    (case d5 => refine' VL.def_mk ?a ?l ?c ?k; (case a => k_is); (case l => k_is); (case c => k_is); (case k => k_is))
    (case d6 => refine' VL.def_mk ?a ?l ?c ?k; (case a => k_is); (case l => k_is); (case c => k_is); (case k => k_is))
    (case d7 => refine' VL.def_mk ?a ?l ?c ?k; (case a => k_is); (case l => k_is); (case c => k_is); (case k => k_is))
    (case d8 => refine' VL.def_mk ?a ?l ?c ?k; (case a => k_is); (case l => k_is); (case c => k_is); (case k => k_is))
    (case d9 => refine' VL.def_mk ?a ?l ?c ?k; (case a => k_is); (case l => k_is); (case c => k_is); (case k => k_is))
    (case d10 => refine' VL.def_mk ?a ?l ?c ?k; (case a => k_is); (case l => k_is); (case c => k_is); (case k => k_is))
    (case d12 => refine' VL.def_mk ?a ?l ?c ?k; (case a => k_is); (case l => k_is); (case c => k_is); (case k => k_is))
    (case d13 => refine' VL.def_mk ?a ?l ?c ?k; (case a => k_is); (case l => k_is); (case c => k_is); (case k => k_is))
    (case d14 => refine' VL.def_mk ?a ?l ?c ?k; (case a => k_is); (case l => k_is); (case c => k_is); (case k => k_is))
    (case d15 => refine' VL.def_mk ?a ?l ?c ?k; (case a => k_is); (case l => k_is); (case c => k_is); (case k => k_is))
    (case d18 => refine' VL.def_mk ?a ?l ?c ?k; (case a => k_is); (case l => k_is); (case c => k_is); (case k => k_is))
    (case d20 => refine' VL.def_mk ?a ?l ?c ?k; (case a => k_is); (case l => k_is); (case c => k_is); (case k => k_is))
    (case d22 => refine' VL.def_mk ?a ?l ?c ?k; (case a => k_is); (case l => k_is); (case c => k_is); (case k => k_is))
    (case d23 => refine' VL.def_mk ?a ?l ?c ?k; (case a => k_is); (case l => k_is); (case c => k_is); (case k => k_is))
    (case d24 => refine' VL.def_mk ?a ?l ?c ?k; (case a => k_is); (case l => k_is); (case c => k_is); (case k => k_is))
    (case z_abs => k_is)
    (case z_all => k_is)
    (case z_bool => k_is)
    (case z_enumerate => k_is)
    (case z_int => k_is)
    (case z_isinstance => k_is)
    (case z_len => k_is)
    (case z_list => k_is)
    (case z_min => k_is)
    (case z_range => k_is)
    (case z_sorted => k_is)
    (case z_tuple => k_is)
