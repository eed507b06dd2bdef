import PyProof.Rows.All
import HandS.ForMost
import HandS.ForExc
import HandS.Exc
import HandS.ExcOwn
import HandS.ExcIs
import HandS.TryMany
import HandS.IsInst
import HandS.Deep
import HandS.More
import HandS.HeadHook1
import HandS.CallSlots
import HandS.TupAny
import HandS.Style
import KE.KRevSl
import HandS.Head0
import HandS.Head1
import HandS.Head2
import HandS.HeadEnd
import HandS.HeadHook2
import HandS.HeadHook3
import HandS.HeadHook4
import HandS.HeadNt
import HandS.WordsExc
import HandS.Codes
import PySem.Challenge.RW_mazemore_k60_words_and_reports
set_option Elab.async false
set_option linter.all false
set_option maxRecDepth 100000
set_option maxHeartbeats 0
namespace PP
open PySem PySem.Spec PyProof.Rows L2

/-- plain data -/
inductive D where
  | non | bl (b : Bool) | int (i : Int) | str (x : Str) | ty (n : String)
  | tup (xs : List D) | lst (xs : List D)
  /-- a list of the written part, or one that is locked: the script -/
  | kl (xs : List D)
  | obj (c : Str) (fs : List (Str × D))
  | dct (kvs : List (D × D))
  deriving Inhabited

inductive Res (α : Type) where
  | ok (a : α) | exc (c : Str) | bad
namespace Res
variable {α β : Type}
def bind : Res α → (α → Res β) → Res β
  | ok a, f => f a
  | exc c, _ => exc c
  | bad, _ => bad
instance : Monad Res where
  pure := ok
  bind := bind
@[simp] theorem pure_eq (a : α) : (pure a : Res α) = ok a := rfl
@[simp] theorem ok_bind (a : α) (f : α → Res β) : (ok a >>= f) = f a := rfl
@[simp] theorem exc_bind (c : Str) (f : α → Res β) : (exc c >>= f) = exc c := rfl
@[simp] theorem bad_bind (f : α → Res β) : ((bad : Res α) >>= f) = bad := rfl
@[simp] theorem ok_bind' (a : α) (f : α → Res β) : bind (ok a) f = f a := rfl
@[simp] theorem exc_bind' (c : Str) (f : α → Res β) : bind (exc c) f = exc c := rfl
@[simp] theorem bad_bind' (f : α → Res β) : bind (bad : Res α) f = bad := rfl
/-- what raises is no value here -/
def quiet : Res α → Res α
  | ok a => ok a
  | _ => bad
@[simp] theorem quiet_ok (a : α) : quiet (ok a) = ok a := rfl
end Res
open Res (ok exc bad)

/-- a slot: empty; a value that is never changed; a value (its own object alone) that may be changed -/
inductive Sl where
  | no | fz (d : D) | ow (d : D) | me (a : Addr) (d : D)
  deriving Inhabited
abbrev Sls := List Sl

inductive Fl where
  | nx (ρ : Sls) | rt (d : D) | bk (ρ : Sls) | ct (ρ : Sls) | exc (c : Str) (ρ : Sls) | bad

/-! ### what represents what -/
/-- a list that is read and not owned -/
def SqF (K : PySem.W.Frag) (H : Hp) (O : Addr → Prop) (a : Addr) (vs : List V) : Prop :=
  (Rd H a (.lst vs) ∧ ¬ O a) ∨ ∃ (o : Obj) (its : Array Value) (n : Nat), K.lookup a = some o ∧ o.cls = .type "list" ∧ o.dict = none ∧ o.data = .seq its n ∧ its.size ≤ sizeLine ∧ Vals vs its.toList
theorem SqF.sql {K : PySem.W.Frag} {H : Hp} {O : Addr → Prop} {a : Addr} {vs : List V} (h : SqF K H O a vs) : SqL K H a vs := by
  rcases h with ⟨h, _⟩ | h
  · exact .inl h
  · exact .inr h
section
variable (K : PySem.W.Frag)
mutual
inductive Rep (H : Hp) (O : Addr → Prop) : V → D → Prop
  | non : Rep H O .non .non
  | bl (b : Bool) : Rep H O (.bl b) (.bl b)
  | int (i : Int) : Rep H O (.int i) (.int i)
  | str (x : Str) : Rep H O (.str x) (.str x)
  | ty (n : String) : Rep H O (.ty n) (.ty n)
  | tup {a : Addr} {vs : List V} {ds : List D} : SqT K H a vs → vs.length ≤ sizeLine → Reps H O vs ds → Rep H O (.ref a) (.tup ds)
  | lst {a : Addr} {vs : List V} {ds : List D} : Rd H a (.lst vs) → ¬ O a → vs.length ≤ sizeLine → Reps H O vs ds → Rep H O (.ref a) (.lst ds)
  | kl {a : Addr} {vs : List V} {ds : List D} : SqF K H O a vs → vs.length ≤ sizeLine → Reps H O vs ds → Rep H O (.ref a) (.kl ds)
  | obj {a dx : Addr} {c : Str} {fs : List (Str × V)} {gs : List (Str × D)} : H a = some (.ins (He.ga K c) dx fs) → ¬ O a → RepFs H O fs gs → Rep H O (.ref a) (.obj c gs)
inductive Reps (H : Hp) (O : Addr → Prop) : List V → List D → Prop
  | nil : Reps H O [] []
  | cons {v : V} {d : D} {vs : List V} {ds : List D} : Rep H O v d → Reps H O vs ds → Reps H O (v :: vs) (d :: ds)
inductive RepFs (H : Hp) (O : Addr → Prop) : List (Str × V) → List (Str × D) → Prop
  | nil : RepFs H O [] []
  | cons {x : Str} {v : V} {d : D} {fs : List (Str × V)} {gs : List (Str × D)} : Rep H O v d → RepFs H O fs gs → RepFs H O ((x, v) :: fs) ((x, d) :: gs)
end
/-- the same, its own object owned -/
def RepK (H : Hp) (O : Addr → Prop) (a : Addr) : D → Prop
  | .lst ds => ∃ vs, H a = some (.lst vs) ∧ vs.length ≤ sizeLine ∧ Reps K H O vs ds
  | .obj c gs => ∃ dx fs, H a = some (.ins (He.ga K c) dx fs) ∧ RepFs K H O fs gs
  | _ => False
def RepN (H : Hp) (O : Addr → Prop) (v : V) (d : D) (a : Addr) : Prop := v = .ref a ∧ O a ∧ RepK K H O a d
inductive RSt (H : Hp) (O : Addr → Prop) : List (Option V) → Sls → List Addr → Prop
  | nil : RSt H O [] [] []
  | no {x : Option V} {σ : List (Option V)} {ρ : Sls} {F : List Addr} : RSt H O σ ρ F → RSt H O (x :: σ) (.no :: ρ) F
  | fz {v : V} {d : D} {σ : List (Option V)} {ρ : Sls} {F : List Addr} : Rep K H O v d → RSt H O σ ρ F → RSt H O (some v :: σ) (.fz d :: ρ) F
  | ow {v : V} {d : D} {a : Addr} {σ : List (Option V)} {ρ : Sls} {F : List Addr} : RepN K H O v d a → a ∉ F → RSt H O σ ρ F → RSt H O (some v :: σ) (.ow d :: ρ) (a :: F)
  | me {v : V} {d : D} {a : Addr} {σ : List (Option V)} {ρ : Sls} {F : List Addr} : RepN K H O v d a → a ∉ F → RSt H O σ ρ F → RSt H O (some v :: σ) (.me a d :: ρ) (a :: F)
end

section
variable {K : PySem.W.Frag} {H H' : Hp} {O O' : Addr → Prop} {v : V} {d : D} {a : Addr}
theorem rd_same {u : HO} (e : Same H H') (h : Rd H a u) : Rd H' a u := by
  rcases h with h | ⟨o, h⟩
  · exact .inl (e _ _ h)
  · exact .inr ⟨o, e _ _ h⟩
theorem sqt_same {xs : List V} (e : Same H H') (h : SqT K H a xs) : SqT K H' a xs := by
  rcases h with h | h
  · exact .inl (rd_same e h)
  · exact .inr h
theorem sql_same {xs : List V} (e : Same H H') (h : SqL K H a xs) : SqL K H' a xs := by
  rcases h with h | h
  · exact .inl (rd_same e h)
  · exact .inr h
theorem sqf_same {xs : List V} (e : Same H H') (h : SqF K H O a xs) : SqF K H' O a xs := by
  rcases h with ⟨h, n⟩ | h
  · exact .inl ⟨rd_same e h, n⟩
  · exact .inr h
theorem sqf_less {xs : List V} (e : ∀ a, O' a → O a) (h : SqF K H O a xs) : SqF K H O' a xs := by
  rcases h with ⟨h, n⟩ | h
  · exact .inl ⟨h, fun q => n (e _ q)⟩
  · exact .inr h
theorem rd_upd {b : Addr} {o u : HO} (h : Rd H a u) (n : a ≠ b) : Rd (upd H b o) a u := by
  rcases h with h | ⟨o', h⟩
  · exact .inl (by rw [upd_ne n]; exact h)
  · exact .inr ⟨o', by rw [upd_ne n]; exact h⟩
/-- no tuple stands at a -/
def NoTup (H : Hp) (a : Addr) : Prop := ∀ xs, ¬ Rd H a (.tup xs)
theorem noTup_lst {xs : List V} (h : H a = some (.lst xs)) : NoTup H a := fun ys r => by
  rcases r with r | ⟨o, r⟩ <;> (rw [h] at r; cases r)
mutual
theorem Rep.same (e : Same H H') : ∀ {v d}, Rep K H O v d → Rep K H' O v d
  | _, _, .non => .non
  | _, _, .bl b => .bl b
  | _, _, .int i => .int i
  | _, _, .str x => .str x
  | _, _, .ty n => .ty n
  | _, _, .tup h z r => .tup (sqt_same e h) z (Reps.same e r)
  | _, _, .lst h n z r => .lst (rd_same e h) n z (Reps.same e r)
  | _, _, .kl h z r => .kl (sqf_same e h) z (Reps.same e r)
  | _, _, .obj h n r => .obj (e _ _ h) n (RepFs.same e r)
theorem Reps.same (e : Same H H') : ∀ {vs ds}, Reps K H O vs ds → Reps K H' O vs ds
  | _, _, .nil => .nil
  | _, _, .cons r t => .cons (Rep.same e r) (Reps.same e t)
theorem RepFs.same (e : Same H H') : ∀ {vs ds}, RepFs K H O vs ds → RepFs K H' O vs ds
  | _, _, .nil => .nil
  | _, _, .cons r t => .cons (Rep.same e r) (RepFs.same e t)
end
mutual
/-- fewer owned -/
theorem Rep.less (e : ∀ a, O' a → O a) : ∀ {v d}, Rep K H O v d → Rep K H O' v d
  | _, _, .non => .non
  | _, _, .bl b => .bl b
  | _, _, .int i => .int i
  | _, _, .str x => .str x
  | _, _, .ty n => .ty n
  | _, _, .tup h z r => .tup h z (Reps.less e r)
  | _, _, .lst h n z r => .lst h (fun q => n (e _ q)) z (Reps.less e r)
  | _, _, .kl h z r => .kl (sqf_less e h) z (Reps.less e r)
  | _, _, .obj h n r => .obj h (fun q => n (e _ q)) (RepFs.less e r)
theorem Reps.less (e : ∀ a, O' a → O a) : ∀ {vs ds}, Reps K H O vs ds → Reps K H O' vs ds
  | _, _, .nil => .nil
  | _, _, .cons r t => .cons (Rep.less e r) (Reps.less e t)
theorem RepFs.less (e : ∀ a, O' a → O a) : ∀ {vs ds}, RepFs K H O vs ds → RepFs K H O' vs ds
  | _, _, .nil => .nil
  | _, _, .cons r t => .cons (Rep.less e r) (RepFs.less e t)
end
/-- what is owned besides -/
abbrev Ad (O : Addr → Prop) (a : Addr) : Addr → Prop := fun b => O b ∨ b = a
theorem rd_some {u : HO} (h : Rd H a u) : H a ≠ none := by
  rcases h with h | ⟨o, h⟩ <;> (rw [h]; exact fun z => nomatch z)
theorem sqf_more {b : Addr} {xs : List V} (n : H b = none) (h : SqF K H O a xs) : SqF K H (Ad O b) a xs := by
  rcases h with ⟨h, m⟩ | h
  · exact .inl ⟨h, fun q => q.elim m fun z => rd_some h (z ▸ n)⟩
  · exact .inr h
mutual
/-- one more owned, that H does not know -/
theorem Rep.more {b : Addr} (n : H b = none) : ∀ {v d}, Rep K H O v d → Rep K H (Ad O b) v d
  | _, _, .non => .non
  | _, _, .bl b => .bl b
  | _, _, .int i => .int i
  | _, _, .str x => .str x
  | _, _, .ty n => .ty n
  | _, _, .tup h z r => .tup h z (Reps.more n r)
  | _, _, .lst h m z r => .lst h (fun q => q.elim m fun z => rd_some h (z ▸ n)) z (Reps.more n r)
  | _, _, .kl h z r => .kl (sqf_more n h) z (Reps.more n r)
  | _, _, .obj h m r => .obj h (fun q => q.elim m fun z => by subst z; rw [h] at n; cases n) (RepFs.more n r)
theorem Reps.more {b : Addr} (n : H b = none) : ∀ {vs ds}, Reps K H O vs ds → Reps K H (Ad O b) vs ds
  | _, _, .nil => .nil
  | _, _, .cons r t => .cons (Rep.more n r) (Reps.more n t)
theorem RepFs.more {b : Addr} (n : H b = none) : ∀ {vs ds}, RepFs K H O vs ds → RepFs K H (Ad O b) vs ds
  | _, _, .nil => .nil
  | _, _, .cons r t => .cons (Rep.more n r) (RepFs.more n t)
end
theorem sqf_upd {b : Addr} {o : HO} {xs : List V} (hb : O b) (h : SqF K H O a xs) : SqF K (upd H b o) O a xs := by
  rcases h with ⟨h, m⟩ | h
  · exact .inl ⟨rd_upd h fun z => m (z ▸ hb), m⟩
  · exact .inr h
theorem sqt_upd {b : Addr} {o : HO} {xs : List V} (hb : NoTup H b) (h : SqT K H a xs) : SqT K (upd H b o) a xs := by
  rcases h with h | h
  · exact .inl (rd_upd h fun z => hb xs (z ▸ h))
  · exact .inr h
mutual
/-- an owned object is changed -/
theorem Rep.upd {b : Addr} {o : HO} (hb : O b) (ht : NoTup H b) : ∀ {v d}, Rep K H O v d → Rep K (upd H b o) O v d
  | _, _, .non => .non
  | _, _, .bl b => .bl b
  | _, _, .int i => .int i
  | _, _, .str x => .str x
  | _, _, .ty n => .ty n
  | _, _, .tup h z r => .tup (sqt_upd ht h) z (Reps.upd hb ht r)
  | _, _, .lst h m z r => .lst (rd_upd h fun z => m (by rw [z]; exact hb)) m z (Reps.upd hb ht r)
  | _, _, .kl h z r => .kl (sqf_upd hb h) z (Reps.upd hb ht r)
  | _, _, .obj h m r => .obj ((upd_ne (fun z => m (by rw [z]; exact hb))).trans h) m (RepFs.upd hb ht r)
theorem Reps.upd {b : Addr} {o : HO} (hb : O b) (ht : NoTup H b) : ∀ {vs ds}, Reps K H O vs ds → Reps K (upd H b o) O vs ds
  | _, _, .nil => .nil
  | _, _, .cons r t => .cons (Rep.upd hb ht r) (Reps.upd hb ht t)
theorem RepFs.upd {b : Addr} {o : HO} (hb : O b) (ht : NoTup H b) : ∀ {vs ds}, RepFs K H O vs ds → RepFs K (L2.upd H b o) O vs ds
  | _, _, .nil => .nil
  | _, _, .cons r t => .cons (Rep.upd hb ht r) (RepFs.upd hb ht t)
end
theorem same_new {p : Addr} {o : HO} (h : H p = none) : Same H (upd H p o) := fun a u e => by
  rw [upd_ne (ne_of_none e h)]
  exact e
/-! ### lists -/
theorem Reps.length : ∀ {vs ds}, Reps K H O vs ds → vs.length = ds.length
  | _, _, .nil => rfl
  | _, _, .cons _ t => congrArg (· + 1) t.length
theorem Reps.get : ∀ {vs ds} {i : Nat} {d : D}, Reps K H O vs ds → ds[i]? = some d → ∃ v, vs[i]? = some v ∧ Rep K H O v d
  | _, _, _, _, .nil, e => by simp at e
  | _, _, 0, _, .cons r _, e => by
    simp at e
    subst e
    exact ⟨_, rfl, r⟩
  | _, _, i + 1, _, .cons _ t, e => by
    obtain ⟨u, h1, h2⟩ := Reps.get (i := i) t (by simpa using e)
    exact ⟨u, by simpa using h1, h2⟩
theorem Reps.getV : ∀ {vs ds} {i : Nat} {v : V}, Reps K H O vs ds → vs[i]? = some v → ∃ d, ds[i]? = some d ∧ Rep K H O v d
  | _, _, _, _, .nil, e => by simp at e
  | _, _, 0, _, .cons r _, e => by
    simp at e
    subst e
    exact ⟨_, rfl, r⟩
  | _, _, i + 1, _, .cons _ t, e => by
    obtain ⟨u, h1, h2⟩ := Reps.getV (i := i) t (by simpa using e)
    exact ⟨u, by simpa using h1, h2⟩
theorem Reps.append : ∀ {vs ws : List V} {ds es : List D}, Reps K H O vs ds → Reps K H O ws es → Reps K H O (vs ++ ws) (ds ++ es)
  | _, _, _, _, .nil, s => s
  | _, _, _, _, .cons r t, s => .cons r (t.append s)
theorem Reps.take : ∀ {vs : List V} {ds : List D} (n : Nat), Reps K H O vs ds → Reps K H O (vs.take n) (ds.take n)
  | _, _, 0, _ => .nil
  | _, _, _ + 1, .nil => .nil
  | _, _, n + 1, .cons r t => .cons r (t.take n)
theorem Reps.drop : ∀ {vs : List V} {ds : List D} (n : Nat), Reps K H O vs ds → Reps K H O (vs.drop n) (ds.drop n)
  | _, _, 0, r => r
  | _, _, _ + 1, .nil => .nil
  | _, _, n + 1, .cons _ t => t.drop n
theorem Reps.one {v : V} {d : D} (r : Rep K H O v d) : Reps K H O [v] [d] := .cons r .nil
theorem Reps.snoc {vs : List V} {ds : List D} {v : V} {d : D} (h : Reps K H O vs ds) (r : Rep K H O v d) : Reps K H O (vs ++ [v]) (ds ++ [d]) := h.append (.one r)
theorem Reps.set {v : V} {d : D} (r : Rep K H O v d) : ∀ {vs : List V} {ds : List D} (i : Nat), Reps K H O vs ds → Reps K H O (vs.set i v) (ds.set i d)
  | _, _, _, .nil => .nil
  | _, _, 0, .cons _ t => .cons r t
  | _, _, i + 1, .cons q t => .cons q (Reps.set r i t)
/-! ### the owned -/
theorem RepK.freeze (h : RepK K H O a d) (n : ¬ O' a) (l : ∀ b, O' b → O b) : Rep K H O' (.ref a) d := by
  cases d with
  | lst ds =>
    obtain ⟨vs, e, z, r⟩ := h
    exact .lst (.inl e) n z (r.less l)
  | obj c gs => obtain ⟨dx, fs, e, r⟩ := h; exact .obj e n (r.less l)
  | _ => exact False.elim h
theorem RepK.noTup (h : RepK K H O a d) : NoTup H a := by
  cases d with
  | lst ds => obtain ⟨vs, e, _⟩ := h; exact noTup_lst e
  | obj c gs => obtain ⟨dx, fs, e, _⟩ := h; exact fun ys r => by rcases r with r | ⟨o, r⟩ <;> (rw [e] at r; cases r)
  | _ => exact False.elim h
theorem RepK.some (h : RepK K H O a d) : H a ≠ none := by
  cases d with
  | lst ds => obtain ⟨vs, e, _⟩ := h; rw [e]; exact fun z => nomatch z
  | obj c gs => obtain ⟨dx, fs, e, _⟩ := h; rw [e]; exact fun z => nomatch z
  | _ => exact False.elim h
theorem RepK.same (e : Same H H') (h : RepK K H O a d) : RepK K H' O a d := by
  cases d with
  | lst ds => obtain ⟨vs, q, z, r⟩ := h; exact ⟨vs, e _ _ q, z, r.same e⟩
  | obj c gs => obtain ⟨dx, fs, q, r⟩ := h; exact ⟨dx, fs, e _ _ q, r.same e⟩
  | _ => exact False.elim h
theorem RepK.more {b : Addr} (n : H b = none) (h : RepK K H O a d) : RepK K H (Ad O b) a d := by
  cases d with
  | lst ds => obtain ⟨vs, q, z, r⟩ := h; exact ⟨vs, q, z, r.more n⟩
  | obj c gs => obtain ⟨dx, fs, q, r⟩ := h; exact ⟨dx, fs, q, r.more n⟩
  | _ => exact False.elim h
theorem RepK.less (e : ∀ a, O' a → O a) (h : RepK K H O a d) : RepK K H O' a d := by
  cases d with
  | lst ds => obtain ⟨vs, q, z, r⟩ := h; exact ⟨vs, q, z, r.less e⟩
  | obj c gs => obtain ⟨dx, fs, q, r⟩ := h; exact ⟨dx, fs, q, r.less e⟩
  | _ => exact False.elim h
theorem RepK.upd {b : Addr} {o : HO} (hb : O b) (ht : NoTup H b) (n : a ≠ b) (h : RepK K H O a d) : RepK K (upd H b o) O a d := by
  cases d with
  | lst ds => obtain ⟨vs, q, z, r⟩ := h; exact ⟨vs, by rw [upd_ne n]; exact q, z, r.upd hb ht⟩
  | obj c gs => obtain ⟨dx, fs, q, r⟩ := h; exact ⟨dx, fs, by rw [upd_ne n]; exact q, r.upd hb ht⟩
  | _ => exact False.elim h
/-! ### states -/
variable {σ : List (Option V)} {ρ : Sls} {F : List Addr}
theorem RSt.same (e : Same H H') : ∀ {σ ρ F}, RSt K H O σ ρ F → RSt K H' O σ ρ F
  | _, _, _, .nil => .nil
  | _, _, _, .no t => .no (t.same e)
  | _, _, _, .fz r t => .fz (r.same e) (t.same e)
  | _, _, _, .ow ⟨q, o, r⟩ n t => .ow ⟨q, o, r.same e⟩ n (t.same e)
  | _, _, _, .me ⟨q, o, r⟩ n t => .me ⟨q, o, r.same e⟩ n (t.same e)
theorem RSt.more {b : Addr} (n : H b = none) : ∀ {σ ρ F}, RSt K H O σ ρ F → RSt K H (Ad O b) σ ρ F
  | _, _, _, .nil => .nil
  | _, _, _, .no t => .no (t.more n)
  | _, _, _, .fz r t => .fz (r.more n) (t.more n)
  | _, _, _, .ow ⟨q, o, r⟩ m t => .ow ⟨q, .inl o, r.more n⟩ m (t.more n)
  | _, _, _, .me ⟨q, o, r⟩ m t => .me ⟨q, .inl o, r.more n⟩ m (t.more n)
theorem RSt.owned : ∀ {σ ρ F}, RSt K H O σ ρ F → ∀ a ∈ F, O a ∧ H a ≠ none
  | _, _, _, .nil, _, h => by simp at h
  | _, _, _, .no t, a, h => t.owned a h
  | _, _, _, .fz r t, a, h => t.owned a h
  | _, _, _, .ow ⟨q, o, r⟩ n t, a, h => by
    rcases List.mem_cons.mp h with e | h
    · subst e; exact ⟨o, r.some⟩
    · exact t.owned a h
  | _, _, _, .me ⟨q, o, r⟩ n t, a, h => by
    rcases List.mem_cons.mp h with e | h
    · subst e; exact ⟨o, r.some⟩
    · exact t.owned a h
theorem RSt.length : ∀ {σ ρ F}, RSt K H O σ ρ F → σ.length = ρ.length
  | _, _, _, .nil => rfl
  | _, _, _, .no t => congrArg (· + 1) t.length
  | _, _, _, .fz _ t => congrArg (· + 1) t.length
  | _, _, _, .ow _ _ t => congrArg (· + 1) t.length
  | _, _, _, .me _ _ t => congrArg (· + 1) t.length
theorem RSt.getF : ∀ {σ ρ F} {i : Nat} {d : D}, RSt K H O σ ρ F → ρ[i]? = some (.fz d) → ∃ v, σ[i]? = some (some v) ∧ Rep K H O v d
  | _, _, _, _, _, .nil, e => by simp at e
  | _, _, _, 0, _, .no t, e => by simp at e
  | _, _, _, 0, _, .fz r t, e => by
    simp at e
    subst e
    exact ⟨_, rfl, r⟩
  | _, _, _, 0, _, .ow _ _ t, e => by simp at e
  | _, _, _, 0, _, .me _ _ t, e => by simp at e
  | _, _, _, i + 1, _, .me _ _ t, e => by
    obtain ⟨v, h1, h2⟩ := t.getF (i := i) (by simpa using e)
    exact ⟨v, by simpa using h1, h2⟩
  | _, _, _, i + 1, _, .no t, e => by
    obtain ⟨v, h1, h2⟩ := t.getF (i := i) (by simpa using e)
    exact ⟨v, by simpa using h1, h2⟩
  | _, _, _, i + 1, _, .fz _ t, e => by
    obtain ⟨v, h1, h2⟩ := t.getF (i := i) (by simpa using e)
    exact ⟨v, by simpa using h1, h2⟩
  | _, _, _, i + 1, _, .ow _ _ t, e => by
    obtain ⟨v, h1, h2⟩ := t.getF (i := i) (by simpa using e)
    exact ⟨v, by simpa using h1, h2⟩
theorem RSt.getO : ∀ {σ ρ F} {i : Nat} {d : D}, RSt K H O σ ρ F → ρ[i]? = some (.ow d) → ∃ a, σ[i]? = some (some (.ref a)) ∧ a ∈ F ∧ O a ∧ RepK K H O a d
  | _, _, _, _, _, .nil, e => by simp at e
  | _, _, _, 0, _, .no t, e => by simp at e
  | _, _, _, 0, _, .ow ⟨q, o, r⟩ n t, e => by
    simp at e
    subst e q
    exact ⟨_, rfl, by simp, o, r⟩
  | _, _, _, 0, _, .fz _ t, e => by simp at e
  | _, _, _, 0, _, .me _ _ t, e => by simp at e
  | _, _, _, i + 1, _, .me _ _ t, e => by
    obtain ⟨v, h1, h2, h3⟩ := t.getO (i := i) (by simpa using e)
    exact ⟨v, by simpa using h1, List.mem_cons_of_mem _ h2, h3⟩
  | _, _, _, i + 1, _, .no t, e => by
    obtain ⟨v, h1, h2, h3⟩ := t.getO (i := i) (by simpa using e)
    exact ⟨v, by simpa using h1, h2, h3⟩
  | _, _, _, i + 1, _, .fz _ t, e => by
    obtain ⟨v, h1, h2, h3⟩ := t.getO (i := i) (by simpa using e)
    exact ⟨v, by simpa using h1, h2, h3⟩
  | _, _, _, i + 1, _, .ow _ _ t, e => by
    obtain ⟨v, h1, h2, h3⟩ := t.getO (i := i) (by simpa using e)
    exact ⟨v, by simpa using h1, List.mem_cons_of_mem _ h2, h3⟩
theorem RSt.getM : ∀ {σ ρ F} {i : Nat} {d : D} {a : Addr}, RSt K H O σ ρ F → ρ[i]? = some (.me a d) → σ[i]? = some (some (.ref a)) ∧ a ∈ F ∧ O a ∧ RepK K H O a d
  | _, _, _, _, _, _, .nil, e => by simp at e
  | _, _, _, 0, _, _, .no t, e => by simp at e
  | _, _, _, 0, _, _, .me ⟨q, o, r⟩ n t, e => by
    simp at e
    obtain ⟨e1, e2⟩ := e
    subst e1 e2 q
    exact ⟨rfl, by simp, o, r⟩
  | _, _, _, 0, _, _, .fz _ t, e => by simp at e
  | _, _, _, 0, _, _, .ow _ _ t, e => by simp at e
  | _, _, _, i + 1, _, _, .no t, e => by
    obtain ⟨h1, h2, h3⟩ := t.getM (i := i) (by simpa using e)
    exact ⟨by simpa using h1, h2, h3⟩
  | _, _, _, i + 1, _, _, .fz _ t, e => by
    obtain ⟨h1, h2, h3⟩ := t.getM (i := i) (by simpa using e)
    exact ⟨by simpa using h1, h2, h3⟩
  | _, _, _, i + 1, _, _, .ow _ _ t, e => by
    obtain ⟨h1, h2, h3⟩ := t.getM (i := i) (by simpa using e)
    exact ⟨by simpa using h1, List.mem_cons_of_mem _ h2, h3⟩
  | _, _, _, i + 1, _, _, .me _ _ t, e => by
    obtain ⟨h1, h2, h3⟩ := t.getM (i := i) (by simpa using e)
    exact ⟨by simpa using h1, List.mem_cons_of_mem _ h2, h3⟩
/-- the owned addresses after: fewer -/
theorem RSt.setN : ∀ {σ ρ F} (i : Nat) (x : Option V), RSt K H O σ ρ F → ∃ F', RSt K H O (σ.set i x) (ρ.set i .no) F' ∧ ∀ a ∈ F', a ∈ F
  | _, _, _, _, _, .nil => ⟨[], .nil, fun _ h => h⟩
  | _, _, _, 0, _, .no t => ⟨_, .no t, fun _ h => h⟩
  | _, _, _, 0, _, .fz _ t => ⟨_, .no t, fun _ h => h⟩
  | _, _, _, 0, _, .ow _ _ t => ⟨_, .no t, fun _ h => List.mem_cons_of_mem _ h⟩
  | _, _, _, 0, _, .me _ _ t => ⟨_, .no t, fun _ h => List.mem_cons_of_mem _ h⟩
  | _, _, _, i + 1, x, .me r n t => let ⟨F', h1, h2⟩ := t.setN i x; ⟨_ :: F', .me r (fun h => n (h2 _ h)) h1, fun a h => (List.mem_cons.mp h).elim (fun e => by subst e; simp) fun h => List.mem_cons_of_mem _ (h2 a h)⟩
  | _, _, _, i + 1, x, .no t => let ⟨F', h1, h2⟩ := t.setN i x; ⟨F', .no h1, h2⟩
  | _, _, _, i + 1, x, .fz r t => let ⟨F', h1, h2⟩ := t.setN i x; ⟨F', .fz r h1, h2⟩
  | _, _, _, i + 1, x, .ow r n t => let ⟨F', h1, h2⟩ := t.setN i x; ⟨_ :: F', .ow r (fun h => n (h2 _ h)) h1, fun a h => (List.mem_cons.mp h).elim (fun e => by subst e; simp) fun h => List.mem_cons_of_mem _ (h2 a h)⟩
theorem RSt.setF {v : V} {d : D} (r : Rep K H O v d) : ∀ {σ ρ F} (i : Nat), RSt K H O σ ρ F → ∃ F', RSt K H O (σ.set i (some v)) (ρ.set i (.fz d)) F' ∧ ∀ a ∈ F', a ∈ F
  | _, _, _, _, .nil => ⟨[], .nil, fun _ h => h⟩
  | _, _, _, 0, .no t => ⟨_, .fz r t, fun _ h => h⟩
  | _, _, _, 0, .fz _ t => ⟨_, .fz r t, fun _ h => h⟩
  | _, _, _, 0, .ow _ _ t => ⟨_, .fz r t, fun _ h => List.mem_cons_of_mem _ h⟩
  | _, _, _, 0, .me _ _ t => ⟨_, .fz r t, fun _ h => List.mem_cons_of_mem _ h⟩
  | _, _, _, i + 1, .me q n t => let ⟨F', h1, h2⟩ := RSt.setF r i t; ⟨_ :: F', .me q (fun h => n (h2 _ h)) h1, fun a h => (List.mem_cons.mp h).elim (fun e => by subst e; simp) fun h => List.mem_cons_of_mem _ (h2 a h)⟩
  | _, _, _, i + 1, .no t => let ⟨F', h1, h2⟩ := RSt.setF r i t; ⟨F', .no h1, h2⟩
  | _, _, _, i + 1, .fz q t => let ⟨F', h1, h2⟩ := RSt.setF r i t; ⟨F', .fz q h1, h2⟩
  | _, _, _, i + 1, .ow q n t => let ⟨F', h1, h2⟩ := RSt.setF r i t; ⟨_ :: F', .ow q (fun h => n (h2 _ h)) h1, fun a h => (List.mem_cons.mp h).elim (fun e => by subst e; simp) fun h => List.mem_cons_of_mem _ (h2 a h)⟩
theorem RSt.setO {v : V} {d : D} {a : Addr} (r : RepN K H O v d a) : ∀ {σ ρ F} (i : Nat), a ∉ F → RSt K H O σ ρ F → ∃ F', RSt K H O (σ.set i (some v)) (ρ.set i (.ow d)) F' ∧ ∀ b ∈ F', b = a ∨ b ∈ F
  | _, _, _, _, _, .nil => ⟨[], .nil, fun _ h => .inr h⟩
  | _, _, _, 0, n, .no t => ⟨_, .ow r n t, fun _ h => List.mem_cons.mp h⟩
  | _, _, _, 0, n, .fz _ t => ⟨_, .ow r n t, fun _ h => List.mem_cons.mp h⟩
  | _, _, _, 0, n, .ow _ _ t => ⟨_, .ow r (fun h => n (List.mem_cons_of_mem _ h)) t, fun _ h => (List.mem_cons.mp h).imp id (List.mem_cons_of_mem _)⟩
  | _, _, _, 0, n, .me _ _ t => ⟨_, .ow r (fun h => n (List.mem_cons_of_mem _ h)) t, fun _ h => (List.mem_cons.mp h).imp id (List.mem_cons_of_mem _)⟩
  | _, _, _, i + 1, n, .me q m t => by
    obtain ⟨F', h1, h2⟩ := RSt.setO r i (fun h => n (List.mem_cons_of_mem _ h)) t
    refine ⟨_ :: F', .me q (fun h => ?_) h1, fun c h => ?_⟩
    · rcases h2 _ h with e | h
      · exact n (by rw [e]; simp)
      · exact m h
    · rcases List.mem_cons.mp h with e | h
      · exact .inr (by rw [e]; simp)
      · exact (h2 c h).imp id (List.mem_cons_of_mem _)
  | _, _, _, i + 1, n, .no t => let ⟨F', h1, h2⟩ := RSt.setO r i n t; ⟨F', .no h1, h2⟩
  | _, _, _, i + 1, n, .fz q t => let ⟨F', h1, h2⟩ := RSt.setO r i n t; ⟨F', .fz q h1, h2⟩
  | _, _, _, i + 1, n, .ow q m t => by
    obtain ⟨F', h1, h2⟩ := RSt.setO r i (fun h => n (List.mem_cons_of_mem _ h)) t
    refine ⟨_ :: F', .ow q (fun h => ?_) h1, fun c h => ?_⟩
    · rcases h2 _ h with e | h
      · exact n (by rw [e]; simp)
      · exact m h
    · rcases List.mem_cons.mp h with e | h
      · exact .inr (by rw [e]; simp)
      · exact (h2 c h).imp id (List.mem_cons_of_mem _)
/-- all that is not a stands -/
theorem RSt.updOut {b : Addr} {o : HO} (hb : O b) (ht : NoTup H b) : ∀ {σ ρ F}, b ∉ F → RSt K H O σ ρ F → RSt K (upd H b o) O σ ρ F
  | _, _, _, _, .nil => .nil
  | _, _, _, n, .no t => .no (RSt.updOut hb ht n t)
  | _, _, _, n, .fz r t => .fz (r.upd hb ht) (RSt.updOut hb ht n t)
  | _, _, _, n, .ow ⟨q, o, r⟩ m t => .ow ⟨q, o, r.upd hb ht fun z => n (by rw [z]; simp)⟩ m (RSt.updOut hb ht (fun h => n (List.mem_cons_of_mem _ h)) t)
  | _, _, _, n, .me ⟨q, o, r⟩ m t => .me ⟨q, o, r.upd hb ht fun z => n (by rw [z]; simp)⟩ m (RSt.updOut hb ht (fun h => n (List.mem_cons_of_mem _ h)) t)
/-- the i-th slot's own object, at b, which the slot tells, is changed -/
theorem RSt.updMe {b : Addr} {o : HO} {d' : D} (hb : O b) (ht : NoTup H b) (hk : RepK K (upd H b o) O b d') : ∀ {σ ρ F} {i : Nat} {d : D}, ρ[i]? = some (.me b d) → RSt K H O σ ρ F → RSt K (upd H b o) O σ (ρ.set i (.me b d')) F
  | _, _, _, _, _, e, .nil => by simp at e
  | _, _, _, 0, _, e, .no t => by simp at e
  | _, _, _, 0, _, e, .fz _ t => by simp at e
  | _, _, _, 0, _, e, .ow _ _ t => by simp at e
  | _, _, _, 0, _, e, .me ⟨q, o, r⟩ m t => by
    simp at e
    obtain ⟨e1, e2⟩ := e
    subst e1 e2 q
    exact .me ⟨rfl, hb, hk⟩ m (RSt.updOut hb ht m t)
  | _, _, _, i + 1, _, e, .no t => .no (RSt.updMe hb ht hk (by simpa using e) t)
  | _, _, _, i + 1, _, e, .fz r t => .fz (r.upd hb ht) (RSt.updMe hb ht hk (by simpa using e) t)
  | _, _, _, i + 1, _, e, .ow ⟨q, o, r⟩ m t => by
    have e' := e
    rw [List.getElem?_cons_succ] at e'
    obtain ⟨h1, h2, _⟩ := t.getM e'
    exact .ow ⟨q, o, r.upd hb ht fun z => m (by rw [z]; exact h2)⟩ m (RSt.updMe hb ht hk e' t)
  | _, _, _, i + 1, _, e, .me ⟨q, o, r⟩ m t => by
    have e' := e
    rw [List.getElem?_cons_succ] at e'
    obtain ⟨h1, h2, _⟩ := t.getM e'
    exact .me ⟨q, o, r.upd hb ht fun z => m (by rw [z]; exact h2)⟩ m (RSt.updMe hb ht hk e' t)
/-- the i-th slot's own object, at b, is changed -/
theorem RSt.updAt {b : Addr} {o : HO} {d' : D} (hb : O b) (ht : NoTup H b) (hk : RepK K (upd H b o) O b d') : ∀ {σ ρ F} {i : Nat} {d : D}, ρ[i]? = some (.ow d) → σ[i]? = some (some (.ref b)) → RSt K H O σ ρ F → RSt K (upd H b o) O σ (ρ.set i (.ow d')) F
  | _, _, _, _, _, e, _, .nil => by simp at e
  | _, _, _, 0, _, e, _, .no t => by simp at e
  | _, _, _, 0, _, e, _, .fz _ t => by simp at e
  | _, _, _, 0, _, e, _, .me _ _ t => by simp at e
  | _, _, _, i + 1, _, e, e2, .me ⟨q, o, r⟩ m t => by
    have e' := e
    have e2' := e2
    rw [List.getElem?_cons_succ] at e' e2'
    obtain ⟨c, h1, h2, _⟩ := t.getO e'
    rw [e2'] at h1
    have e3 : b = c := by injection h1 with h1; injection h1 with h1; injection h1
    subst e3
    exact .me ⟨q, o, r.upd hb ht fun z => m (by rw [z]; exact h2)⟩ m (RSt.updAt hb ht hk e' e2' t)
  | _, _, _, 0, _, e, e2, .ow ⟨q, o, r⟩ m t => by
    subst q
    simp at e2
    subst e2
    exact .ow ⟨rfl, hb, hk⟩ m (RSt.updOut hb ht m t)
  | _, _, _, i + 1, _, e, e2, .no t => .no (RSt.updAt hb ht hk (by simpa using e) (by simpa using e2) t)
  | _, _, _, i + 1, _, e, e2, .fz r t => .fz (r.upd hb ht) (RSt.updAt hb ht hk (by simpa using e) (by simpa using e2) t)
  | _, _, _, i + 1, _, e, e2, .ow ⟨q, o, r⟩ m t => by
    have e' := e
    have e2' := e2
    rw [List.getElem?_cons_succ] at e' e2'
    obtain ⟨c, h1, h2, _⟩ := t.getO e'
    rw [e2'] at h1
    have e3 : b = c := by injection h1 with h1; injection h1 with h1; injection h1
    subst e3
    exact .ow ⟨q, o, r.upd hb ht fun z => m (by rw [z]; exact h2)⟩ m (RSt.updAt hb ht hk e' e2' t)
/-- the i-th slot's value is given away: it is never changed again -/
theorem RSt.freeze' : ∀ {σ ρ F} {i : Nat} {d : D}, RSt K H O σ ρ F → ρ[i]? = some (.ow d) → ∃ O' F', (∀ b, O' b → O b) ∧ RSt K H O' σ (ρ.set i (.fz d)) F' ∧ (∀ b ∈ F', b ∈ F) ∧ (∀ b, O b → O' b ∨ b ∈ F) := by
  intro σ ρ F i d t e
  obtain ⟨a, e1, hF, hO, hk⟩ := t.getO e
  -- O' is O without a
  refine ⟨fun b => O b ∧ b ≠ a, ?_⟩
  have key : ∀ {σ ρ F} {i : Nat}, ρ[i]? = some (.ow d) → σ[i]? = some (some (.ref a)) → RSt K H O σ ρ F → ∃ F', RSt K H (fun b => O b ∧ b ≠ a) σ (ρ.set i (.fz d)) F' ∧ (∀ b ∈ F', b ∈ F) := by
    have less : ∀ b, (O b ∧ b ≠ a) → O b := fun b h => h.1
    have away : ∀ {σ ρ F}, a ∉ F → RSt K H O σ ρ F → RSt K H (fun b => O b ∧ b ≠ a) σ ρ F := by
      intro σ ρ F n t
      induction t with
      | nil => exact .nil
      | no _ ih => exact .no (ih n)
      | fz r _ ih => exact .fz (r.less less) (ih n)
      | ow r m _ ih =>
        obtain ⟨q, o, r⟩ := r
        exact .ow ⟨q, ⟨o, fun z => n (by rw [z]; simp)⟩, r.less less⟩ m (ih fun h => n (List.mem_cons_of_mem _ h))
      | me r m _ ih =>
        obtain ⟨q, o, r⟩ := r
        exact .me ⟨q, ⟨o, fun z => n (by rw [z]; simp)⟩, r.less less⟩ m (ih fun h => n (List.mem_cons_of_mem _ h))
    intro σ ρ F i e e2 t
    induction t generalizing i with
    | nil => simp at e
    | no t ih =>
      cases i with
      | zero => simp at e
      | succ i =>
        obtain ⟨F', h1, h2⟩ := ih (i := i) (by simpa using e) (by simpa using e2)
        exact ⟨F', .no h1, h2⟩
    | fz r t ih =>
      cases i with
      | zero => simp at e
      | succ i =>
        obtain ⟨F', h1, h2⟩ := ih (i := i) (by simpa using e) (by simpa using e2)
        exact ⟨F', .fz (r.less less) h1, h2⟩
    | @ow v0 d0 a0 σ0 ρ0 F0 r m t ih =>
      obtain ⟨q, o, r⟩ := r
      cases i with
      | zero =>
        simp at e e2
        subst e q
        have e3 : a0 = a := by injection e2
        subst e3
        exact ⟨F0, .fz (r.freeze (fun z => z.2 rfl) less) (away m t), fun b h => List.mem_cons_of_mem _ h⟩
      | succ i =>
        have e2' : σ0[i]? = some (some (.ref a)) := by simpa using e2
        have e' : ρ0[i]? = some (.ow d) := by simpa using e
        obtain ⟨F', h1, h2⟩ := ih (i := i) e' e2'
        obtain ⟨c, g1, g2, _⟩ := t.getO e'
        rw [e2'] at g1
        have e3 : a = c := by injection g1 with g1; injection g1 with g1; injection g1
        subst e3
        exact ⟨a0 :: F', .ow ⟨q, ⟨o, fun z => m (by rw [z]; exact g2)⟩, r.less less⟩ (fun h => m (h2 _ h)) h1, fun b h => (List.mem_cons.mp h).elim (fun z => by rw [z]; simp) fun h => List.mem_cons_of_mem _ (h2 b h)⟩
    | @me v0 d0 a0 σ0 ρ0 F0 r m t ih =>
      obtain ⟨q, o, r⟩ := r
      cases i with
      | zero => simp at e
      | succ i =>
        have e2' : σ0[i]? = some (some (.ref a)) := by simpa using e2
        have e' : ρ0[i]? = some (.ow d) := by simpa using e
        obtain ⟨F', h1, h2⟩ := ih (i := i) e' e2'
        obtain ⟨c, g1, g2, _⟩ := t.getO e'
        rw [e2'] at g1
        have e3 : a = c := by injection g1 with g1; injection g1 with g1; injection g1
        subst e3
        exact ⟨a0 :: F', .me ⟨q, ⟨o, fun z => m (by rw [z]; exact g2)⟩, r.less less⟩ (fun h => m (h2 _ h)) h1, fun b h => (List.mem_cons.mp h).elim (fun z => by rw [z]; simp) fun h => List.mem_cons_of_mem _ (h2 b h)⟩
  obtain ⟨F', h1, h2⟩ := key e e1 t
  refine ⟨F', fun b h => h.1, h1, h2, fun b h => ?_⟩
  by_cases z : b = a
  · exact .inr (by rw [z]; exact hF)
  · exact .inl ⟨h, z⟩
end
end PP

namespace PP
open PySem PySem.Spec PyProof.Rows L2
open Res (ok exc bad)

/-! ### states -/
/-- what is owned stands, and is no tuple -/
def Dom (H : Hp) (O : Addr → Prop) : Prop := ∀ a, O a → H a ≠ none ∧ NoTup H a
structure Sta (K : PySem.W.Frag) (H : Hp) (O : Addr → Prop) (σ : L2.St) (ρ : Sls) (F : List Addr) : Prop where
  st : RSt K H O σ ρ F
  dom : Dom H O
structure Tr (H : Hp) (O : Addr → Prop) (F : List Addr) (H' : Hp) (O' : Addr → Prop) (F' : List Addr) : Prop where
  keep : ∀ a o, H a = some o → a ∉ F → H' a = some o
  new : ∀ a ∈ F', a ∈ F ∨ H a = none
  own : ∀ a, O a → O' a ∨ a ∈ F
  back : ∀ a, O' a → O a ∨ H a = none
section
variable {K : PySem.W.Frag} {H H' H1 H2 : Hp} {O O' O1 O2 : Addr → Prop} {σ σ' : L2.St} {ρ ρ' : Sls} {F F' F1 F2 : List Addr}
theorem dom_same {H H' : Hp} (e : Same H H') {a : Addr} (h : H a ≠ none) : H' a ≠ none := by
  cases q : H a with
  | none => exact absurd q h
  | some o => rw [e a o q]; exact fun z => nomatch z
theorem Dom.same (e : Same H H') (d : Dom H O) : Dom H' O := fun a h => by
  obtain ⟨h1, h2⟩ := d a h
  refine ⟨dom_same e h1, fun xs r => ?_⟩
  cases q : H a with
  | none => exact h1 q
  | some o =>
    have q' := e a o q
    rcases r with r | ⟨o', r⟩
    · rw [q'] at r; exact h2 xs (.inl (q.trans r))
    · rw [q'] at r; exact h2 xs (.inr ⟨o', q.trans r⟩)
theorem Sta.same (e : Same H H') (s : Sta K H O σ ρ F) : Sta K H' O σ ρ F := ⟨s.st.same e, s.dom.same e⟩
theorem Tr.same (e : Same H H') : Tr H O F H' O F := ⟨fun a o h _ => e a o h, fun _ h => .inl h, fun _ h => .inl h, fun _ h => .inl h⟩
theorem Tr.refl : Tr H O F H O F := .same (Same.refl H)
theorem Tr.trans (s : Sta K H O σ ρ F) (a : Tr H O F H1 O1 F1) (b : Tr H1 O1 F1 H2 O2 F2) : Tr H O F H2 O2 F2 where
  keep := fun x o h n => by
    refine b.keep x o (a.keep x o h n) fun h1 => ?_
    rcases a.new x h1 with q | q
    · exact n q
    · rw [h] at q; cases q
  new := fun x h => by
    rcases b.new x h with h1 | h1
    · exact a.new x h1
    · cases q : H x with
      | none => exact .inr rfl
      | some o =>
        by_cases n : x ∈ F
        · exact .inl n
        · rw [a.keep x o q n] at h1; cases h1
  own := fun x h => by
    rcases a.own x h with h1 | h1
    · rcases b.own x h1 with h2 | h2
      · exact .inl h2
      · rcases a.new x h2 with q | q
        · exact .inr q
        · exact absurd q (s.dom x h).1
    · exact .inr h1
  back := fun x h => by
    rcases b.back x h with h1 | h1
    · exact a.back x h1
    · cases q : H x with
      | none => exact .inr rfl
      | some o =>
        by_cases n : x ∈ F
        · exact .inl (s.st.owned x n).1
        · rw [a.keep x o q n] at h1; cases h1
end

/-! ### what is read where a container stands -/
def RepB (K : PySem.W.Frag) (H : Hp) (O : Addr → Prop) (v : V) (d : D) : Prop := Rep K H O v d ∨ ∃ a, v = .ref a ∧ RepK K H O a d
section
variable {K : PySem.W.Frag} {H H' : Hp} {O O' : Addr → Prop} {v : V} {d : D} {a : Addr}
theorem RepB.same (e : Same H H') (h : RepB K H O v d) : RepB K H' O v d := by
  rcases h with h | ⟨a, e1, h⟩
  · exact .inl (h.same e)
  · exact .inr ⟨a, e1, h.same e⟩
theorem RepB.lstR {ds : List D} (h : RepB K H O v (.lst ds)) : ∃ a vs, v = .ref a ∧ Rd H a (.lst vs) ∧ vs.length ≤ sizeLine ∧ Reps K H O vs ds := by
  rcases h with h | ⟨a, e1, vs, e2, z, r⟩
  · cases h with
    | lst h n z r => exact ⟨_, _, rfl, h, z, r⟩
  · exact ⟨a, vs, e1, .inl e2, z, r⟩
theorem RepB.lst {ds : List D} (h : RepB K H O v (.lst ds)) : ∃ a vs, v = .ref a ∧ SqL K H a vs ∧ vs.length ≤ sizeLine ∧ Reps K H O vs ds := by
  obtain ⟨a, vs, e, h, r⟩ := h.lstR
  exact ⟨a, vs, e, .inl h, r⟩
theorem RepB.kl {ds : List D} (h : RepB K H O v (.kl ds)) : ∃ a vs, v = .ref a ∧ SqL K H a vs ∧ vs.length ≤ sizeLine ∧ Reps K H O vs ds := by
  rcases h with h | ⟨a, e1, h⟩
  · cases h with
    | kl h z r => exact ⟨_, _, rfl, h.sql, z, r⟩
  · exact h.elim
theorem RepB.tup {ds : List D} (h : RepB K H O v (.tup ds)) : ∃ a vs, v = .ref a ∧ SqT K H a vs ∧ vs.length ≤ sizeLine ∧ Reps K H O vs ds := by
  rcases h with h | ⟨a, e1, h⟩
  · cases h with
    | tup h z r => exact ⟨_, _, rfl, h, z, r⟩
  · exact h.elim
theorem RepB.int {i : Int} (h : RepB K H O v (.int i)) : v = .int i := by
  rcases h with h | ⟨a, e1, h⟩
  · cases h; rfl
  · exact h.elim
theorem RepB.bl {i : Bool} (h : RepB K H O v (.bl i)) : v = .bl i := by
  rcases h with h | ⟨a, e1, h⟩
  · cases h; rfl
  · exact h.elim
theorem RepB.str {i : Str} (h : RepB K H O v (.str i)) : v = .str i := by
  rcases h with h | ⟨a, e1, h⟩
  · cases h; rfl
  · exact h.elim
theorem RepB.non (h : RepB K H O v .non) : v = .non := by
  rcases h with h | ⟨a, e1, h⟩
  · cases h; rfl
  · exact h.elim
theorem RepB.ty {n : String} (h : RepB K H O v (.ty n)) : v = .ty n := by
  rcases h with h | ⟨a, e1, h⟩
  · cases h; rfl
  · exact h.elim
theorem RepB.obj {c : Str} {gs : List (Str × D)} (h : RepB K H O v (.obj c gs)) : ∃ a dx fs, v = .ref a ∧ H a = some (.ins (He.ga K c) dx fs) ∧ RepFs K H O fs gs := by
  rcases h with h | ⟨a, e1, h⟩
  · cases h with
    | obj h n r => exact ⟨_, _, _, rfl, h, r⟩
  · obtain ⟨dx, fs, e, r⟩ := h
    exact ⟨a, dx, fs, e1, e, r⟩
theorem RepB.weak (h : RepB K H O v d) : Rep K H (fun _ => False) v d := by
  rcases h with h | ⟨a, e1, h⟩
  · exact h.less fun _ z => z.elim
  · subst e1; exact h.freeze (fun z => z) fun _ z => z.elim
theorem RepN.frz {p : Addr} (h : RepN K H (Ad O p) v d p) (n : ¬ O p) : Rep K H O v d := by
  obtain ⟨e, _, h⟩ := h
  subst e
  exact h.freeze n fun _ q => .inl q
theorem RepN.b {p : Addr} (h : RepN K H (Ad O p) v d p) : RepB K H O v d := .inr ⟨p, h.1, h.2.2.less fun _ q => .inl q⟩
end

/-! ### readings -/
abbrev EX := L2.St → XK
def Po (K : PySem.W.Frag) (E : EX) (σ : L2.St) (H : Hp) {α : Type} (r : Res α) (P : α → Prop) : Prop :=
  match r with
  | .ok a => P a
  | .exc c => ∀ H', Same H H' → E σ (.ref (He.ga K c)) none H'
  | .bad => False
section
variable {K : PySem.W.Frag} {E : EX} {σ : L2.St} {H H' : Hp} {α β : Type}
theorem Po.bind {r : Res α} {k : α → Res β} {P : β → Prop} (h : Po K E σ H (r >>= k) P) : Po K E σ H r fun a => Po K E σ H (k a) P := by
  cases r with
  | ok a => exact h
  | exc c => exact h
  | bad => exact h
theorem Po.imp {r : Res α} {P P' : α → Prop} (h : Po K E σ H r P) (i : ∀ a, P a → P' a) : Po K E σ H r P' := by
  cases r with
  | ok a => exact i a h
  | exc c => exact h
  | bad => exact h
theorem Po.later {r : Res α} {P : α → Prop} (e : Same H H') (h : Po K E σ H r P) : Po K E σ H' r P := by
  cases r with
  | ok a => exact h
  | exc c => exact fun H2 e2 => h H2 (e.trans e2)
  | bad => exact h
end
/-- a value that is pure | new, its own object owned | read at once | a test | arguments | arguments that are read -/
def tEF (K : PySem.W.Frag) (E : EX) (f : Sls → Res D) : TE := fun σ H Q => ∃ ρ O F, Sta K H O σ ρ F ∧ Po K E σ H (f ρ) fun d => ∀ v H', Same H H' → Rep K H' O v d → Q v H'
def tEN (K : PySem.W.Frag) (E : EX) (f : Sls → Res D) : TE := fun σ H Q => ∃ ρ O F, Sta K H O σ ρ F ∧ Po K E σ H (f ρ) fun d => ∀ v a H', Same H H' → H a = none → RepN K H' (Ad O a) v d a → Q v H'
def tEB (K : PySem.W.Frag) (E : EX) (f : Sls → Res D) : TE := fun σ H Q => ∃ ρ O F, Sta K H O σ ρ F ∧ Po K E σ H (f ρ) fun d => ∀ v H', Same H H' → RepB K H' O v d → Q v H'
def tET (K : PySem.W.Frag) (E : EX) (f : Sls → Res Bool) : TT := fun σ H Q => ∃ ρ O F, Sta K H O σ ρ F ∧ Po K E σ H (f ρ) fun b => ∀ H', Same H H' → Q b H'
def tEA (K : PySem.W.Frag) (E : EX) (f : Sls → Res (List D)) : TA := fun σ H Q => ∃ ρ O F, Sta K H O σ ρ F ∧ Po K E σ H (f ρ) fun ds => ∀ vs H', Same H H' → Reps K H' O vs ds → Q vs H'
inductive RepBs (K : PySem.W.Frag) (H : Hp) (O : Addr → Prop) : List V → List D → Prop
  | nil : RepBs K H O [] []
  | cons {v : V} {d : D} {vs : List V} {ds : List D} : RepB K H O v d → RepBs K H O vs ds → RepBs K H O (v :: vs) (d :: ds)
theorem RepBs.weak {K : PySem.W.Frag} {H : Hp} {O : Addr → Prop} : ∀ {vs : List V} {ds : List D}, RepBs K H O vs ds → Reps K H (fun _ => False) vs ds
  | _, _, .nil => .nil
  | _, _, .cons r t => .cons r.weak t.weak
def tEC (K : PySem.W.Frag) (E : EX) (f : Sls → Res (List D)) : TA := fun σ H Q => ∃ ρ O F, Sta K H O σ ρ F ∧ Po K E σ H (f ρ) fun ds => ∀ vs H', Same H H' → RepBs K H' O vs ds → Q vs H'
abbrev EF (X : Cx) (E : EX) (e : Expr) (f : Sls → Res D) : Prop := PE X e (tEF X.K E f)
abbrev EN (X : Cx) (E : EX) (e : Expr) (f : Sls → Res D) : Prop := PE X e (tEN X.K E f)
abbrev EB (X : Cx) (E : EX) (e : Expr) (f : Sls → Res D) : Prop := PE X e (tEB X.K E f)
abbrev ET (X : Cx) (E : EX) (e : Expr) (f : Sls → Res Bool) : Prop := PT X e (tET X.K E f)
abbrev EW (X : Cx) (E : EX) (e : Expr) (f : Sls → Res Bool) : Prop := PW X e (tET X.K E f)
abbrev EA (X : Cx) (E : EX) (es : List Expr) (f : Sls → Res (List D)) : Prop := PA X es (tEA X.K E f)
abbrev EC (X : Cx) (E : EX) (es : List Expr) (f : Sls → Res (List D)) : Prop := PA X es (tEC X.K E f)

section
variable {X : Cx}
theorem pe_imp {e : Expr} {t t' : TE} (h : PE X e t) (i : ∀ σ H Q, t' σ H Q → t σ H Q) : PE X e t' := ⟨fun pins s σ H Q I q => h.run pins s σ H Q I (i σ H Q q)⟩
theorem pt_imp {e : Expr} {t t' : TT} (h : PT X e t) (i : ∀ σ H Q, t' σ H Q → t σ H Q) : PT X e t' := ⟨fun pins s σ H Q I q => h.run pins s σ H Q I (i σ H Q q)⟩
theorem pw_imp {e : Expr} {t t' : TT} (h : PW X e t) (i : ∀ σ H Q, t' σ H Q → t σ H Q) : PW X e t' := ⟨fun w pins s σ H Q I q => h.run w pins s σ H Q I (i σ H Q q)⟩
theorem pa_imp {e : List Expr} {t t' : TA} (h : PA X e t) (i : ∀ σ H Q, t' σ H Q → t σ H Q) : PA X e t' := ⟨fun p pins s σ H Q I q => h.run p pins s σ H Q I (i σ H Q q)⟩
theorem ps_imp {e : Stmt} {t t' : TS} (h : PS X e t) (i : ∀ D σ H, t' D σ H → t D σ H) : PS X e t' := ⟨fun pins s σ H D I q => h.run pins s σ H D I (i D σ H q)⟩
theorem pss_imp {e : List Stmt} {t t' : TS} (h : PSs X e t) (i : ∀ D σ H, t' D σ H → t D σ H) : PSs X e t' := ⟨fun pins s σ H D I q => h.run pins s σ H D I (i D σ H q)⟩
variable {E : EX} {e : Expr} {f : Sls → Res D}
/-! ### from one to another -/
theorem EF.b (h : EF X E e f) : EB X E e f := pe_imp h fun σ H Q ⟨ρ, O, F, s, p⟩ => ⟨ρ, O, F, s, p.imp fun d k v H' e r => k v H' e (.inl r)⟩
theorem not_new {K : PySem.W.Frag} {H : Hp} {O : Addr → Prop} {σ : L2.St} {ρ : Sls} {F : List Addr} (s : Sta K H O σ ρ F) {a : Addr} (n : H a = none) : ¬ O a := fun h => (s.dom a h).1 n
theorem EN.fz (h : EN X E e f) : EF X E e f := pe_imp h fun σ H Q ⟨ρ, O, F, s, p⟩ => ⟨ρ, O, F, s, p.imp fun d k v a H' e n r => k v H' e (r.frz (not_new s n))⟩
theorem EN.b (h : EN X E e f) : EB X E e f := pe_imp h fun σ H Q ⟨ρ, O, F, s, p⟩ => ⟨ρ, O, F, s, p.imp fun d k v a H' e n r => k v H' e r.b⟩
theorem EW.t {f : Sls → Res Bool} (h : EW X E e f) : ET X E e f := h.pt

/-! ### names, constants -/
def mVar (i : Nat) : Sls → Res D := fun ρ => match ρ[i]? with
  | some (.fz d) => ok d
  | _ => bad
def mVarB (i : Nat) : Sls → Res D := fun ρ => match ρ[i]? with
  | some (.fz d) => ok d
  | some (.ow d) => ok d
  | some (.me _ d) => ok d
  | _ => bad
def mC (d : D) : Sls → Res D := fun _ => ok d
theorem ef_var (i : Nat) {x : Str} {pos : Pos} (hN : X.N[i]? = some x := by rfl) (hv : Vis X.env.scope x := by first | exact Or.inl rfl | exact Or.inr (Or.inl rfl) | exact Or.inr (Or.inr rfl)) (hd : (x == ("__debug__" : Str)) = false := by decide)
    (hcd : (x == ("__classdict__" : Str)) = false := by decide) : EF X E (.Name x pos) (mVar i) := pe_imp (pe_var hN hv hd hcd) fun σ H Q ⟨ρ, O, F, s, p⟩ => by
  unfold mVar at p
  cases e : ρ[i]? with
  | none => rw [e] at p; exact p.elim
  | some q =>
    cases q with
    | fz d =>
      rw [e] at p
      obtain ⟨v, h1, h2⟩ := s.st.getF e
      exact ⟨v, h1, p v H (Same.refl H) h2⟩
    | _ => rw [e] at p; exact p.elim
theorem eb_var (i : Nat) {x : Str} {pos : Pos} (hN : X.N[i]? = some x := by rfl) (hv : Vis X.env.scope x := by first | exact Or.inl rfl | exact Or.inr (Or.inl rfl) | exact Or.inr (Or.inr rfl)) (hd : (x == ("__debug__" : Str)) = false := by decide)
    (hcd : (x == ("__classdict__" : Str)) = false := by decide) : EB X E (.Name x pos) (mVarB i) := pe_imp (pe_var hN hv hd hcd) fun σ H Q ⟨ρ, O, F, s, p⟩ => by
  unfold mVarB at p
  cases e : ρ[i]? with
  | none => rw [e] at p; exact p.elim
  | some q =>
    cases q with
    | fz d =>
      rw [e] at p
      obtain ⟨v, h1, h2⟩ := s.st.getF e
      exact ⟨v, h1, p v H (Same.refl H) (.inl h2)⟩
    | ow d =>
      rw [e] at p
      obtain ⟨a, h1, _, _, h2⟩ := s.st.getO e
      exact ⟨_, h1, p _ H (Same.refl H) (.inr ⟨a, rfl, h2⟩)⟩
    | me a d =>
      rw [e] at p
      obtain ⟨h1, _, _, h2⟩ := s.st.getM e
      exact ⟨_, h1, p _ H (Same.refl H) (.inr ⟨a, rfl, h2⟩)⟩
    | _ => rw [e] at p; exact p.elim
theorem ef_c {v : V} {d : D} (h : PE X e (tC v)) (r : ∀ H O, Rep X.K H O v d) : EF X E e (mC d) := pe_imp h fun σ H Q ⟨ρ, O, F, s, p⟩ => p v H (Same.refl H) (r H O)
theorem ef_int {i : Int} {j : Nat} {pos : Pos} : EF X E (.Constant (.int i) j pos) (mC (.int i)) := ef_c pe_int fun _ _ => .int i
theorem ef_bl {b : Bool} {j : Nat} {pos : Pos} : EF X E (.Constant (.bool b) j pos) (mC (.bl b)) := ef_c pe_bl fun _ _ => .bl b
theorem ef_non {j : Nat} {pos : Pos} : EF X E (.Constant .none j pos) (mC .non) := ef_c pe_non fun _ _ => .non
theorem ef_str {x : Str} {j : Nat} {pos : Pos} : EF X E (.Constant (.str x) j pos) (mC (.str x)) := ef_c pe_str fun _ _ => .str x
theorem ef_gint {x : Str} {i : Int} {pos : Pos} (hm : ∃ t, X.mg x = some (.int i t)) (hg : Gl X x := by rfl) (hd : (x == ("__debug__" : Str)) = false := by decide) : EF X E (.Name x pos) (mC (.int i)) := by
  obtain ⟨t, hm⟩ := hm
  exact ef_c (v := .int i) (pe_glob hg hm ⟨t, rfl⟩ hd) fun _ _ => .int i
theorem ef_gstr {x z : Str} {pos : Pos} (hm : ∃ t, X.mg x = some (.str z t)) (hg : Gl X x := by rfl) (hd : (x == ("__debug__" : Str)) = false := by decide) : EF X E (.Name x pos) (mC (.str z)) := by
  obtain ⟨t, hm⟩ := hm
  exact ef_c (v := .str z) (pe_glob hg hm ⟨t, rfl⟩ hd) fun _ _ => .str z
theorem ef_bty {x : Str} {n : String} {pos : Pos} (hm : X.mg x = none) (hg : Gl X x := by rfl) (hv : bootBuiltins x = some (.type n) := by decide +kernel) (hn : x ≠ "__name__" := by decide) (hd : (x == ("__debug__" : Str)) = false := by decide) : EF X E (.Name x pos) (mC (.ty n)) :=
  ef_c (v := .ty n) (pe_bltn hg hm hv rfl hn hd) fun _ _ => .ty n

/-! ### operators -/
def ofO {α : Type} : Option α → Res α
  | some a => ok a
  | none => bad
@[simp] theorem ofO_some {α : Type} (a : α) : ofO (some a) = ok a := rfl
@[simp] theorem ofO_none {α : Type} : ofO (none : Option α) = bad := rfl
/-- what a pure | a new answer is to reach -/
def VP (K : PySem.W.Frag) (H : Hp) (O : Addr → Prop) (Q : VK) : Option D → Prop
  | some d => ∀ v H', Same H H' → Rep K H' O v d → Q v H'
  | none => False
def VN (K : PySem.W.Frag) (H : Hp) (O : Addr → Prop) (Q : VK) : Option D → Prop
  | some d => ∀ v a H', Same H H' → H a = none → RepN K H' (Ad O a) v d a → Q v H'
  | none => False
theorem Po.vp {K : PySem.W.Frag} {E : EX} {σ : L2.St} {H H' : Hp} {O : Addr → Prop} {Q : VK} {r : Option D} (e : Same H H') (h : Po K E σ H (ofO r) fun d => ∀ v H', Same H H' → Rep K H' O v d → Q v H') : VP K H' O Q r := by
  cases r with
  | none => exact h.elim
  | some d => exact fun v H2 e2 r => h v H2 (e.trans e2) r
theorem Po.vn {K : PySem.W.Frag} {E : EX} {σ : L2.St} {H H' : Hp} {O : Addr → Prop} {Q : VK} {r : Option D} (e : Same H H') (h : Po K E σ H (ofO r) fun d => ∀ v a H', Same H H' → H a = none → RepN K H' (Ad O a) v d a → Q v H') : VN K H' O Q r := by
  cases r with
  | none => exact h.elim
  | some d => exact fun v a H2 e2 n r => h v a H2 (e.trans e2) (e.free n) r
def mOp2 (h : D → D → Option D) (f g : Sls → Res D) : Sls → Res D := fun ρ => f ρ >>= fun x => g ρ >>= fun y => ofO (h x y)
def mOp1 (h : D → Option D) (f : Sls → Res D) : Sls → Res D := fun ρ => f ρ >>= fun x => ofO (h x)
abbrev Op2 (K : PySem.W.Frag) (r : R2) (h : D → D → Option D) : Prop := ∀ H O x y dx dy Q, Dom H O → RepB K H O x dx → RepB K H O y dy → VP K H O Q (h dx dy) → r x y H Q
abbrev Op2N (K : PySem.W.Frag) (r : R2) (h : D → D → Option D) : Prop := ∀ H O x y dx dy Q, Dom H O → RepB K H O x dx → RepB K H O y dy → VN K H O Q (h dx dy) → r x y H Q
variable {a b : Expr} {g : Sls → Res D} {h : D → D → Option D} {r : R2} {pos : Pos}
theorem seq2 {K : PySem.W.Frag} {k : D → D → Res D} {P : Hp → (Addr → Prop) → D → VK → Prop} {σ : L2.St} {H : Hp} {Q : VK} {R : V → V → Hp → Prop}
    (hq : ∃ ρ O F, Sta K H O σ ρ F ∧ Po K E σ H (f ρ >>= fun x => g ρ >>= fun y => k x y) fun d => P H O d Q)
    (go : ∀ O H1 x y dx dy, Same H H1 → Dom H1 O → RepB K H1 O x dx → RepB K H1 O y dy → (Po K E σ H (k dx dy) fun d => P H O d Q) → R x y H1) :
    tEB K E f σ H fun x H1 => tEB K E g σ H1 fun y H2 => R x y H2 := by
  obtain ⟨ρ, O, F, s, p⟩ := hq
  refine ⟨ρ, O, F, s, p.bind.imp fun dx p1 x H1 e1 r1 => ⟨ρ, O, F, s.same e1, (p1.bind.imp fun dy p2 y H2 e2 r2 => ?_).later e1⟩⟩
  exact go O H2 x y dx dy (e1.trans e2) (s.same (e1.trans e2)).dom (r1.same e2) r2 p2
theorem ef_op {op : Operator} (ho : OpR X (binaryOp op) r) (hh : Op2 X.K r h) (ha : EB X E a f) (hb : EB X E b g) : EF X E (.BinOp a op b pos) (mOp2 h f g) :=
  pe_imp (pe_op ho ha hb) fun σ H Q hq => seq2 (P := fun H O d Q => ∀ v H', Same H H' → Rep X.K H' O v d → Q v H') hq fun O H1 x y dx dy e1 d1 rx ry p => hh H1 O x y dx dy Q d1 rx ry (p.vp e1)
theorem en_op {op : Operator} (ho : OpR X (binaryOp op) r) (hh : Op2N X.K r h) (ha : EB X E a f) (hb : EB X E b g) : EN X E (.BinOp a op b pos) (mOp2 h f g) :=
  pe_imp (pe_op ho ha hb) fun σ H Q hq => seq2 (P := fun H O d Q => ∀ v a H', Same H H' → H a = none → RepN X.K H' (Ad O a) v d a → Q v H') hq fun O H1 x y dx dy e1 d1 rx ry p => hh H1 O x y dx dy Q d1 rx ry (p.vn e1)
theorem ef_cmp {op : CmpOp} (ho : OpR X (compareOp op) r) (hh : Op2 X.K r h) (ha : EB X E a f) (hb : EB X E b g) (hm : behindInMarks op b = false) : EF X E (.Compare a [op] [b] pos) (mOp2 h f g) :=
  pe_imp (pe_cmpR ho ha hb hm) fun σ H Q hq => seq2 (P := fun H O d Q => ∀ v H', Same H H' → Rep X.K H' O v d → Q v H') hq fun O H1 x y dx dy e1 d1 rx ry p => hh H1 O x y dx dy Q d1 rx ry (p.vp e1)
/-- a bool of a value -/
def asB : D → Option Bool
  | .bl b => some b
  | _ => none
def mT (f : Sls → Res D) : Sls → Res Bool := fun ρ => f ρ >>= fun x => ofO (asB x)
theorem Po.asB {K : PySem.W.Frag} {E : EX} {σ : L2.St} {H H1 : Hp} {O : Addr → Prop} {Q : Bool → Hp → Prop} {r : Option D} (e : Same H H1) (p : Po K E σ H (ofO r >>= fun x => ofO (PP.asB x)) fun b => ∀ H', Same H H' → Q b H') : VP K H1 O (fun x H' => ∃ k, x = V.bl k ∧ Q k H') r := by
  cases r with
  | none => exact p.elim
  | some d =>
    cases d with
    | bl b =>
      intro v H2 e2 rv
      cases rv
      exact ⟨b, rfl, p H2 (e.trans e2)⟩
    | _ => exact p.elim
theorem res_assoc {α β γ : Type} (r : Res α) (k : α → Res β) (l : β → Res γ) : ((r >>= k) >>= l) = (r >>= fun x => k x >>= l) := by cases r <;> rfl
theorem et_cmp {op : CmpOp} (ho : OpR X (compareOp op) r) (hh : Op2 X.K r h) (ha : EB X E a f) (hb : EB X E b g) (hm : behindInMarks op b = false) : ET X E (.Compare a [op] [b] pos) (mT (mOp2 h f g)) :=
  pt_imp (pt_cmpR ho ha hb hm) fun σ H Q ⟨ρ, O, F, s, p⟩ => by
    have p' : Po X.K E σ H (f ρ >>= fun x => g ρ >>= fun y => (ofO (h x y) >>= fun x => ofO (PP.asB x))) fun b => ∀ H', Same H H' → Q b H' := by
      have p0 : Po X.K E σ H ((f ρ >>= fun x => g ρ >>= fun y => ofO (h x y)) >>= fun x => ofO (PP.asB x)) fun b => ∀ H', Same H H' → Q b H' := p
      simpa only [res_assoc] using p0
    refine ⟨ρ, O, F, s, p'.bind.imp fun dx p1 x H1 e1 r1 => ⟨ρ, O, F, s.same e1, (p1.bind.imp fun dy p2 y H2 e2 r2 => ?_).later e1⟩⟩
    exact hh H2 O x y dx dy _ (s.same (e1.trans e2)).dom (r1.same e2) r2 (p2.asB (e1.trans e2))
theorem et_val (ha : EF X E e f) (he : ∀ whole, isTrue e X.env whole = (do let v ← whole; standAt e.pos; holding [v] (truthy v)) := by intro _; rfl) : ET X E e (mT f) :=
  pt_imp (pt_val ha he) fun σ H Q ⟨ρ, O, F, s, p⟩ => ⟨ρ, O, F, s, by
    refine p.bind.imp fun d p1 v H1 e1 r1 => ?_
    cases d with
    | bl b => cases r1; exact ⟨b, rfl, p1 H1 e1⟩
    | _ => exact p1.elim⟩
/-! ### and, or, not -/
def mAnd (f g : Sls → Res Bool) : Sls → Res Bool := fun ρ => f ρ >>= fun b => if b then g ρ else ok false
def mOr (f g : Sls → Res Bool) : Sls → Res Bool := fun ρ => f ρ >>= fun b => if b then ok true else g ρ
def mNot (f : Sls → Res Bool) : Sls → Res Bool := fun ρ => f ρ >>= fun b => ok (!b)
variable {tf tg : Sls → Res Bool} {rest : List Expr}
theorem ew_and1 (ha : ET X E a tf) : EW X E (.BoolOp .And [a] pos) tf := pw_and1 ha
theorem ew_or1 (ha : ET X E a tf) : EW X E (.BoolOp .Or [a] pos) tf := pw_or1 ha
theorem ew_and (ha : ET X E a tf) (hb : EW X E (.BoolOp .And (b :: rest) pos) tg) : EW X E (.BoolOp .And (a :: b :: rest) pos) (mAnd tf tg) :=
  pw_imp (pw_and ha hb) fun σ H Q ⟨ρ, O, F, s, p⟩ => ⟨ρ, O, F, s, p.bind.imp fun c p1 H1 e1 => by
    cases c with
    | true => exact iteT ⟨ρ, O, F, s.same e1, (Po.later e1 p1).imp fun _ k H2 e2 => k H2 (e1.trans e2)⟩
    | false => exact iteF (p1 H1 e1)⟩
theorem ew_or (ha : ET X E a tf) (hb : EW X E (.BoolOp .Or (b :: rest) pos) tg) : EW X E (.BoolOp .Or (a :: b :: rest) pos) (mOr tf tg) :=
  pw_imp (pw_or ha hb) fun σ H Q ⟨ρ, O, F, s, p⟩ => ⟨ρ, O, F, s, p.bind.imp fun c p1 H1 e1 => by
    cases c with
    | true => exact iteT (p1 H1 e1)
    | false => exact iteF ⟨ρ, O, F, s.same e1, (Po.later e1 p1).imp fun _ k H2 e2 => k H2 (e1.trans e2)⟩⟩
theorem et_not (ha : ET X E a tf) : ET X E (.UnaryOp .Not a pos) (mNot tf) :=
  pt_imp (pt_not ha) fun σ H Q ⟨ρ, O, F, s, p⟩ => ⟨ρ, O, F, s, p.bind⟩
def mBV (f : Sls → Res Bool) : Sls → Res D := fun ρ => f ρ >>= fun b => ok (.bl b)
/-- .. as values -/
def mAndV (f g : Sls → Res D) : Sls → Res D := fun ρ => f ρ >>= fun x => ofO (asB x) >>= fun b => if b then g ρ else ok (.bl false)
def mOrV (f g : Sls → Res D) : Sls → Res D := fun ρ => f ρ >>= fun x => ofO (asB x) >>= fun b => if b then ok (.bl true) else g ρ
def mNotV (f : Sls → Res D) : Sls → Res D := fun ρ => f ρ >>= fun x => ofO (asB x) >>= fun b => ok (.bl (!b))
theorem ef_one {op : BoolOp} (ha : EF X E a f) : EF X E (.BoolOp op [a] pos) f := pe_one ha
theorem ef_and (ha : EF X E a f) (hb : EF X E (.BoolOp .And (b :: rest) pos) g) : EF X E (.BoolOp .And (a :: b :: rest) pos) (mAndV f g) :=
  pe_imp (pe_and ha hb) fun σ H Q ⟨ρ, O, F, s, p⟩ => ⟨ρ, O, F, s, p.bind.imp fun d p1 v H1 e1 r1 => by
    cases d with
    | bl c =>
      cases r1
      refine ⟨c, rfl, ?_⟩
      cases c with
      | true => exact iteT ⟨ρ, O, F, s.same e1, (Po.later e1 p1).imp fun _ k v H2 e2 r => k v H2 (e1.trans e2) r⟩
      | false => exact iteF (p1 _ H1 e1 (.bl false))
    | _ => exact p1.elim⟩
theorem ef_or (ha : EF X E a f) (hb : EF X E (.BoolOp .Or (b :: rest) pos) g) : EF X E (.BoolOp .Or (a :: b :: rest) pos) (mOrV f g) :=
  pe_imp (pe_or ha hb) fun σ H Q ⟨ρ, O, F, s, p⟩ => ⟨ρ, O, F, s, p.bind.imp fun d p1 v H1 e1 r1 => by
    cases d with
    | bl c =>
      cases r1
      refine ⟨c, rfl, ?_⟩
      cases c with
      | true => exact iteT (p1 _ H1 e1 (.bl true))
      | false => exact iteF ⟨ρ, O, F, s.same e1, (Po.later e1 p1).imp fun _ k v H2 e2 r => k v H2 (e1.trans e2) r⟩
    | _ => exact p1.elim⟩
theorem ef_not (ha : EF X E a f) : EF X E (.UnaryOp .Not a pos) (mNotV f) :=
  pe_imp (pe_not ha) fun σ H Q ⟨ρ, O, F, s, p⟩ => ⟨ρ, O, F, s, p.bind.imp fun d p1 v H1 e1 r1 => by
    cases d with
    | bl c => cases r1; exact ⟨c, rfl, p1 _ H1 e1 (.bl _)⟩
    | _ => exact p1.elim⟩
def mIf (c : Sls → Res Bool) (f g : Sls → Res D) : Sls → Res D := fun ρ => c ρ >>= fun b => if b then f ρ else g ρ
theorem ef_if {c : Expr} (hc : ET X E c tf) (ha : EF X E a f) (hb : EF X E b g) : EF X E (.IfExp c a b pos) (mIf tf f g) :=
  pe_imp (pe_ifExp hc ha hb) fun σ H Q ⟨ρ, O, F, s, p⟩ => ⟨ρ, O, F, s, p.bind.imp fun c p1 H1 e1 => by
    cases c with
    | true => exact iteT ⟨ρ, O, F, s.same e1, (Po.later e1 p1).imp fun _ k v H2 e2 r => k v H2 (e1.trans e2) r⟩
    | false => exact iteF ⟨ρ, O, F, s.same e1, (Po.later e1 p1).imp fun _ k v H2 e2 r => k v H2 (e1.trans e2) r⟩⟩
/-! ### chains a < b < c -/
def mChain (h1 h2 : D → D → Option D) (f g k : Sls → Res D) : Sls → Res D := fun ρ => f ρ >>= fun x => g ρ >>= fun y => ofO (h1 x y) >>= fun z => ofO (asB z) >>= fun b => if b then (k ρ >>= fun w => ofO (h2 y w)) else ok (.bl false)
end
end PP

namespace PP
open PySem PySem.Spec PyProof.Rows L2
open Res (ok exc bad)
section
variable {X : Cx} {E : EX} {a b c e : Expr} {f g k : Sls → Res D} {h h1 h2 : D → D → Option D} {r r' : R2} {pos : Pos}
/-! ### chains a < b < c -/
theorem chain_go {σ : L2.St} {H : Hp} {Q : VK} (hh : Op2 X.K r h1) (hh' : Op2 X.K r' h2) (hq : tEF X.K E (mChain h1 h2 f g k) σ H Q) :
    tChain r r' (tEB X.K E f) (tEB X.K E g) (tEB X.K E k) σ H Q := by
  obtain ⟨ρ, O, F, s, p⟩ := hq
  refine ⟨ρ, O, F, s, p.bind.imp fun dx p1 x H1 e1 r1 => ⟨ρ, O, F, s.same e1, (p1.bind.imp fun dy p2 y H2 e2 r2 => ?_).later e1⟩⟩
  have e12 := e1.trans e2
  refine hh H2 O x y dx dy _ (s.same e12).dom (r1.same e2) r2 ?_
  have p2' : Po X.K E σ H (ofO (h1 dx dy) >>= fun z => ofO (asB z) >>= fun b => if b then (k ρ >>= fun w => ofO (h2 dy w)) else ok (.bl false)) fun d => ∀ v H', Same H H' → Rep X.K H' O v d → Q v H' := p2
  cases q : h1 dx dy with
  | none => rw [q] at p2'; exact p2'.elim
  | some z =>
    rw [q] at p2'
    cases z with
    | bl b =>
      intro v H3 e3 rv
      cases rv
      refine ⟨b, rfl, ?_⟩
      have e13 := e12.trans e3
      cases b with
      | true =>
        refine iteT ⟨ρ, O, F, s.same e13, ((show Po X.K E σ H (k ρ >>= fun w => ofO (h2 dy w)) _ from p2').bind.imp fun dz p3 z H4 e4 r3 => ?_).later e13⟩
        exact hh' H4 O y z dy dz _ (s.same (e13.trans e4)).dom ((r2.same e3).same e4) r3 (p3.vp (e13.trans e4))
      | false => exact iteF (p2' _ H3 e13 (.bl false))
    | _ => exact p2'.elim
theorem ef_chain {op op' : CmpOp} (ho : OpR X (compareOp op) r) (ho' : OpR X (compareOp op') r') (hh : Op2 X.K r h1) (hh' : Op2 X.K r' h2) (ha : EB X E a f) (hb : EB X E b g) (hc : EB X E c k)
    (hm : lastMarks [op, op'] [b, c] = false := by with_unfolding_all rfl) : EF X E (.Compare a [op, op'] [b, c] pos) (mChain h1 h2 f g k) :=
  pe_imp (pe_chain ho ho' ha hb hc hm) fun σ H Q hq => chain_go hh hh' hq
theorem et_chain {op op' : CmpOp} (ho : OpR X (compareOp op) r) (ho' : OpR X (compareOp op') r') (hh : Op2 X.K r h1) (hh' : Op2 X.K r' h2) (ha : EB X E a f) (hb : EB X E b g) (hc : EB X E c k)
    (hm : lastMarks [op, op'] [b, c] = false := by with_unfolding_all rfl) : ET X E (.Compare a [op, op'] [b, c] pos) (mT (mChain h1 h2 f g k)) :=
  pt_imp (pt_chain ho ho' ha hb hc hm) fun σ H Q ⟨ρ, O, F, s, p⟩ => by
    refine chain_go (Q := fun x H' => ∃ k, x = V.bl k ∧ Q k H') hh hh' ⟨ρ, O, F, s, p.bind.imp fun d p1 v H1 e1 r1 => ?_⟩
    cases d with
    | bl b => cases r1; exact ⟨b, rfl, p1 H1 e1⟩
    | _ => exact p1.elim

/-! ### argument lists -/
variable {es : List Expr} {fs : List (Sls → Res D)}
def mArgs : List (Sls → Res D) → Sls → Res (List D)
  | [], _ => ok []
  | f :: fs, ρ => f ρ >>= fun x => mArgs fs ρ >>= fun xs => ok (x :: xs)
theorem mArgs_length : ∀ {fs : List (Sls → Res D)} {ρ : Sls} {ds : List D}, mArgs fs ρ = ok ds → ds.length = fs.length
  | [], _, _, h => by cases h; rfl
  | f :: fs, ρ, ds, h => by
    have h' : (f ρ >>= fun x => mArgs fs ρ >>= fun xs => ok (x :: xs)) = ok ds := h
    cases e1 : f ρ with
    | ok x =>
      rw [e1] at h'
      cases e2 : mArgs fs ρ with
      | ok xs =>
        simp [e2] at h'
        subst h'
        simp [mArgs_length e2]
      | _ => simp [e2] at h'
    | _ => rw [e1] at h'; cases h'
theorem Po.eq {K : PySem.W.Frag} {E : EX} {σ : L2.St} {H : Hp} {α : Type} {r : Res α} {P : α → Prop} (h : Po K E σ H r P) : Po K E σ H r fun a => r = ok a ∧ P a := by
  cases r with
  | ok a => exact ⟨rfl, h⟩
  | _ => exact h
theorem ea_nil : EA X E [] (mArgs []) := pa_imp pa_nil fun σ H Q ⟨ρ, O, F, s, p⟩ => p [] H (Same.refl H) .nil
theorem ea_cons (ha : EF X E e f) (hr : EA X E es (mArgs fs)) (hs : starEach (e :: es) X.env = (false, eval e X.env) :: starEach es X.env := by rfl) : EA X E (e :: es) (mArgs (f :: fs)) :=
  pa_imp (pa_cons ha hr hs) fun σ H Q ⟨ρ, O, F, s, p⟩ => ⟨ρ, O, F, s, (show Po X.K E σ H (f ρ >>= fun x => mArgs fs ρ >>= fun xs => ok (x :: xs)) _ from p).bind.imp fun dx p1 x H1 e1 r1 => ⟨ρ, O, F, s.same e1, (p1.bind.imp fun ds p2 vs H2 e2 r2 => p2 _ H2 (e1.trans e2) (.cons (r1.same e2) r2)).later e1⟩⟩
theorem RepBs.same {K : PySem.W.Frag} {H H' : Hp} {O : Addr → Prop} (e : Same H H') : ∀ {vs : List V} {ds : List D}, RepBs K H O vs ds → RepBs K H' O vs ds
  | _, _, .nil => .nil
  | _, _, .cons r t => .cons (r.same e) (RepBs.same e t)
theorem RepBs.length {K : PySem.W.Frag} {H : Hp} {O : Addr → Prop} : ∀ {vs : List V} {ds : List D}, RepBs K H O vs ds → vs.length = ds.length
  | _, _, .nil => rfl
  | _, _, .cons _ t => congrArg (· + 1) t.length
theorem ec_nil : EC X E [] (mArgs []) := pa_imp pa_nil fun σ H Q ⟨ρ, O, F, s, p⟩ => p [] H (Same.refl H) .nil
theorem ec_cons (ha : EB X E e f) (hr : EC X E es (mArgs fs)) (hs : starEach (e :: es) X.env = (false, eval e X.env) :: starEach es X.env := by rfl) : EC X E (e :: es) (mArgs (f :: fs)) :=
  pa_imp (pa_cons ha hr hs) fun σ H Q ⟨ρ, O, F, s, p⟩ => ⟨ρ, O, F, s, (show Po X.K E σ H (f ρ >>= fun x => mArgs fs ρ >>= fun xs => ok (x :: xs)) _ from p).bind.imp fun dx p1 x H1 e1 r1 => ⟨ρ, O, F, s.same e1, (p1.bind.imp fun ds p2 vs H2 e2 r2 => p2 _ H2 (e1.trans e2) (.cons (r1.same e2) r2)).later e1⟩⟩
/-! ### displays -/
theorem small_lim {n : Nat} (h : n ≤ 1000) : n ≤ sizeLine := Nat.le_trans h (by decide)
def mTup (fs : List (Sls → Res D)) : Sls → Res D := fun ρ => mArgs fs ρ >>= fun xs => ok (.tup xs)
def mLst (fs : List (Sls → Res D)) : Sls → Res D := fun ρ => mArgs fs ρ >>= fun xs => ok (.lst xs)
theorem RepN.newL {K : PySem.W.Frag} {H : Hp} {O : Addr → Prop} {p : Addr} {vs : List V} {ds : List D} (n : H p = none) (z : vs.length ≤ sizeLine) (r : Reps K H O vs ds) : RepN K (upd H p (.lst vs)) (Ad O p) (.ref p) (.lst ds) p :=
  ⟨rfl, .inr rfl, vs, upd_same, z, (r.more n).same (same_new n)⟩
theorem rep_newT {K : PySem.W.Frag} {H : Hp} {O : Addr → Prop} {p : Addr} {vs : List V} {ds : List D} (n : H p = none) (z : vs.length ≤ sizeLine) (r : Reps K H O vs ds) : Rep K (upd H p (.tup vs)) O (.ref p) (.tup ds) :=
  .tup (.of upd_same) z (r.same (same_new n))
theorem ef_tup {x1} (h : EA X E es (mArgs fs)) (hl : fs.length ≤ 1000 := by decide) : EF X E (.Tuple es x1 pos) (mTup fs) :=
  pe_imp (pe_tup h) fun σ H Q ⟨ρ, O, F, s, p⟩ => ⟨ρ, O, F, s, p.bind.eq.imp fun ds ⟨e0, p1⟩ vs H1 e1 r1 => by
    have z : vs.length ≤ sizeLine := by rw [r1.length, mArgs_length e0]; exact small_lim hl
    exact ⟨z, fun q n => p1 _ _ (e1.trans (same_new n)) (rep_newT n z r1)⟩⟩
theorem en_lst (h : EA X E es (mArgs fs)) (hl : fs.length ≤ 1000 := by decide) : EN X E (.List es pos) (mLst fs) :=
  pe_imp (pe_lst h) fun σ H Q ⟨ρ, O, F, s, p⟩ => ⟨ρ, O, F, s, p.bind.eq.imp fun ds ⟨e0, p1⟩ vs H1 e1 r1 => by
    have z : vs.length ≤ sizeLine := by rw [r1.length, mArgs_length e0]; exact small_lim hl
    exact ⟨z, fun q n => p1 _ q _ (e1.trans (same_new n)) (e1.free n) (.newL n z r1)⟩⟩

/-! ### calls of defs -/
/-- what a def promises: a pure answer | a new list -/
def spF (K : PySem.W.Frag) (f : List D → Res D) : Sp := fun vs H Q E => ∃ ds Z, Reps K H Z vs ds ∧ Dom H Z ∧ (match f ds with
  | .ok d => ∀ v H', Same H H' → Rep K H' Z v d → Q v H'
  | .exc c => ∀ H', Same H H' → E (.ref (He.ga K c)) none H'
  | .bad => False)
def spN (K : PySem.W.Frag) (f : List D → Res D) : Sp := fun vs H Q E => ∃ ds Z, Reps K H Z vs ds ∧ Dom H Z ∧ (match f ds with
  | .ok d => ∀ v a H', Same H H' → H a = none → RepN K H' (Ad Z a) v d a → Q v H'
  | .exc c => ∀ H', Same H H' → E (.ref (He.ga K c)) none H'
  | .bad => False)
def mCall (F : List D → Res D) (fs : List (Sls → Res D)) : Sls → Res D := fun ρ => mArgs fs ρ >>= F
variable {CX : CXT} {n : Nat} {fa : Addr} {fd : FuncData} {ps : List Str} {x : Str} {p : Pos} {F : List D → Res D}
theorem ef_call (G : FnOk X.prog X.w X.K X.mg X.base CX n fa fd ps (spF X.K F)) (hr : Room n X.A) (hm : X.mg x = some (.ref fa)) (hk : PySem.W.keepIn X.K (.ref fa) = true) (hb : Binds X.K fd ps []) (hx : ∀ σ, PassesAt CX X σ (E σ))
    (ha : EA X E (e :: es) (mArgs fs)) (hg : Gl X x := by rfl) (hdb : (x == ("__debug__" : Str)) = false := by decide) (he : starEach (e :: es) X.env = (false, eval e X.env) :: starEach es X.env := by rfl) (hpl : (backTo pos (starEach es X.env)).any (·.1) = false := by rfl) :
    EF X E (.Call (.Name x p) (e :: es) [] pos) (mCall F fs) :=
  pe_imp (pe_callS G hr hg hm hk hb hx ha hdb he hpl) fun σ H Q ⟨ρ, O, FF, s, p⟩ => ⟨ρ, O, FF, s, p.bind.imp fun ds p1 vs H1 e1 r1 => ⟨ds, O, r1, (s.same e1).dom, by
    cases q : F ds with
    | ok d => rw [q] at p1; exact fun v H2 e2 r2 => p1 v H2 (e1.trans e2) r2
    | exc c => rw [q] at p1; exact fun H2 e2 => p1 H2 (e1.trans e2)
    | bad => rw [q] at p1; exact p1⟩⟩
theorem en_call (G : FnOk X.prog X.w X.K X.mg X.base CX n fa fd ps (spN X.K F)) (hr : Room n X.A) (hm : X.mg x = some (.ref fa)) (hk : PySem.W.keepIn X.K (.ref fa) = true) (hb : Binds X.K fd ps []) (hx : ∀ σ, PassesAt CX X σ (E σ))
    (ha : EA X E (e :: es) (mArgs fs)) (hg : Gl X x := by rfl) (hdb : (x == ("__debug__" : Str)) = false := by decide) (he : starEach (e :: es) X.env = (false, eval e X.env) :: starEach es X.env := by rfl) (hpl : (backTo pos (starEach es X.env)).any (·.1) = false := by rfl) :
    EN X E (.Call (.Name x p) (e :: es) [] pos) (mCall F fs) :=
  pe_imp (pe_callS G hr hg hm hk hb hx ha hdb he hpl) fun σ H Q ⟨ρ, O, FF, s, p⟩ => ⟨ρ, O, FF, s, p.bind.imp fun ds p1 vs H1 e1 r1 => ⟨ds, O, r1, (s.same e1).dom, by
    cases q : F ds with
    | ok d => rw [q] at p1; exact fun v a H2 e2 n r2 => p1 v a H2 (e1.trans e2) (e1.free n) r2
    | exc c => rw [q] at p1; exact fun H2 e2 => p1 H2 (e1.trans e2)
    | bad => rw [q] at p1; exact p1⟩⟩
/-- plain: no list, no object in it -/
def D.plain : D → Bool
  | .lst _ => false
  | .kl _ => false
  | .obj _ _ => false
  | .dct _ => false
  | .tup xs => plains xs
  | _ => true
where plains : List D → Bool
  | [] => true
  | x :: xs => x.plain && plains xs
mutual
theorem Rep.plain {K : PySem.W.Frag} {H : Hp} {O O' : Addr → Prop} : ∀ {v d}, Rep K H O v d → d.plain = true → Rep K H O' v d
  | _, _, .non, _ => .non
  | _, _, .bl b, _ => .bl b
  | _, _, .int i, _ => .int i
  | _, _, .str x, _ => .str x
  | _, _, .ty n, _ => .ty n
  | _, _, .tup h z r, q => .tup h z (Reps.plain r (by simpa [D.plain] using q))
  | _, _, .lst h n z r, q => by simp [D.plain] at q
  | _, _, .kl h z r, q => by simp [D.plain] at q
  | _, _, .obj h n r, q => by simp [D.plain] at q
theorem Reps.plain {K : PySem.W.Frag} {H : Hp} {O O' : Addr → Prop} : ∀ {vs ds}, Reps K H O vs ds → D.plain.plains ds = true → Reps K H O' vs ds
  | _, _, .nil, _ => .nil
  | _, _, .cons r t, q => by
    simp [D.plain.plains] at q
    exact .cons (Rep.plain r q.1) (Reps.plain t q.2)
end
/-- a call with arguments that are owned by the caller: the answer is plain -/
def mCallB (F : List D → Res D) (fs : List (Sls → Res D)) : Sls → Res D := fun ρ => mArgs fs ρ >>= F >>= fun d => if d.plain then ok d else bad
theorem ef_callB (G : FnOk X.prog X.w X.K X.mg X.base CX n fa fd ps (spF X.K F)) (hr : Room n X.A) (hm : X.mg x = some (.ref fa)) (hk : PySem.W.keepIn X.K (.ref fa) = true) (hb : Binds X.K fd ps []) (hx : ∀ σ, PassesAt CX X σ (E σ))
    (ha : EC X E (e :: es) (mArgs fs)) (hg : Gl X x := by rfl) (hdb : (x == ("__debug__" : Str)) = false := by decide) (he : starEach (e :: es) X.env = (false, eval e X.env) :: starEach es X.env := by rfl) (hpl : (backTo pos (starEach es X.env)).any (·.1) = false := by rfl) :
    EF X E (.Call (.Name x p) (e :: es) [] pos) (mCallB F fs) :=
  pe_imp (pe_callS G hr hg hm hk hb hx ha hdb he hpl) fun σ H Q ⟨ρ, O, FF, s, p⟩ => ⟨ρ, O, FF, s, by
    have p' : Po X.K E σ H (mArgs fs ρ >>= fun ds => F ds >>= fun d => if d.plain then ok d else bad) fun d => ∀ v H', Same H H' → Rep X.K H' O v d → Q v H' := by
      have p0 : Po X.K E σ H ((mArgs fs ρ >>= F) >>= fun d => if d.plain then ok d else bad) fun d => ∀ v H', Same H H' → Rep X.K H' O v d → Q v H' := p
      simpa only [res_assoc] using p0
    refine p'.bind.imp fun ds p1 vs H1 e1 r1 => ⟨ds, fun _ => False, r1.weak, fun _ z => z.elim, ?_⟩
    cases q : F ds with
    | ok d =>
      rw [q] at p1
      have p2 : Po X.K E σ H (if d.plain then ok d else bad) fun d => ∀ v H', Same H H' → Rep X.K H' O v d → Q v H' := p1
      cases z : d.plain with
      | true =>
        rw [z] at p2
        exact fun v H2 e2 r2 => p2 v H2 (e1.trans e2) (r2.plain z)
      | false => rw [z] at p2; exact p2.elim
    | exc c => rw [q] at p1; exact fun H2 e2 => p1 H2 (e1.trans e2)
    | bad => rw [q] at p1; exact p1⟩

/-! ### calls of built-ins -/
abbrev Cl1 (K : PySem.W.Frag) (r : List V → Hp → VK → Prop) (h : List D → Option D) : Prop := ∀ H O vs ds Q, Dom H O → RepBs K H O vs ds → VP K H O Q (h ds) → r vs H Q
abbrev Cl1N (K : PySem.W.Frag) (r : List V → Hp → VK → Prop) (h : List D → Option D) : Prop := ∀ H O vs ds Q, Dom H O → RepBs K H O vs ds → VN K H O Q (h ds) → r vs H Q
def mBI (h : List D → Option D) (fs : List (Sls → Res D)) : Sls → Res D := fun ρ => mArgs fs ρ >>= fun ds => ofO (h ds)
variable {rc : List V → Hp → VK → Prop} {hc : List D → Option D} {id T : String}
theorem ef_bi (hr : CallR X (.builtin id) rc) (hh : Cl1 X.K rc hc) (hm : X.mg x = none) (ha : EC X E (e :: es) (mArgs fs)) (hv : bootBuiltins x = some (.builtin id) := by decide +kernel) (hg : Gl X x := by rfl) (hn : x ≠ "__name__" := by decide) (hdb : (x == ("__debug__" : Str)) = false := by decide)
    (he : starEach (e :: es) X.env = (false, eval e X.env) :: starEach es X.env := by rfl) (hpl : (backTo pos (starEach es X.env)).any (·.1) = false := by rfl) : EF X E (.Call (.Name x p) (e :: es) [] pos) (mBI hc fs) :=
  pe_imp (pe_callB hr hg hm hv ha hn hdb he hpl) fun σ H Q ⟨ρ, O, FF, s, p⟩ => ⟨ρ, O, FF, s, p.bind.imp fun ds p1 vs H1 e1 r1 => hh H1 O vs ds Q (s.same e1).dom r1 (p1.vp e1)⟩
theorem ef_bt (hr : CallR X (.type T) rc) (hh : Cl1 X.K rc hc) (hm : X.mg x = none) (ha : EC X E (e :: es) (mArgs fs)) (hv : bootBuiltins x = some (.type T) := by decide +kernel) (hg : Gl X x := by rfl) (hn : x ≠ "__name__" := by decide) (hdb : (x == ("__debug__" : Str)) = false := by decide)
    (he : starEach (e :: es) X.env = (false, eval e X.env) :: starEach es X.env := by rfl) (hpl : (backTo pos (starEach es X.env)).any (·.1) = false := by rfl) : EF X E (.Call (.Name x p) (e :: es) [] pos) (mBI hc fs) :=
  pe_imp (pe_callTy hr hg hm hv ha hn hdb he hpl) fun σ H Q ⟨ρ, O, FF, s, p⟩ => ⟨ρ, O, FF, s, p.bind.imp fun ds p1 vs H1 e1 r1 => hh H1 O vs ds Q (s.same e1).dom r1 (p1.vp e1)⟩
theorem en_bi (hr : CallR X (.builtin id) rc) (hh : Cl1N X.K rc hc) (hm : X.mg x = none) (ha : EC X E (e :: es) (mArgs fs)) (hv : bootBuiltins x = some (.builtin id) := by decide +kernel) (hg : Gl X x := by rfl) (hn : x ≠ "__name__" := by decide) (hdb : (x == ("__debug__" : Str)) = false := by decide)
    (he : starEach (e :: es) X.env = (false, eval e X.env) :: starEach es X.env := by rfl) (hpl : (backTo pos (starEach es X.env)).any (·.1) = false := by rfl) : EN X E (.Call (.Name x p) (e :: es) [] pos) (mBI hc fs) :=
  pe_imp (pe_callB hr hg hm hv ha hn hdb he hpl) fun σ H Q ⟨ρ, O, FF, s, p⟩ => ⟨ρ, O, FF, s, p.bind.imp fun ds p1 vs H1 e1 r1 => hh H1 O vs ds Q (s.same e1).dom r1 (p1.vn e1)⟩
theorem en_bt (hr : CallR X (.type T) rc) (hh : Cl1N X.K rc hc) (hm : X.mg x = none) (ha : EC X E (e :: es) (mArgs fs)) (hv : bootBuiltins x = some (.type T) := by decide +kernel) (hg : Gl X x := by rfl) (hn : x ≠ "__name__" := by decide) (hdb : (x == ("__debug__" : Str)) = false := by decide)
    (he : starEach (e :: es) X.env = (false, eval e X.env) :: starEach es X.env := by rfl) (hpl : (backTo pos (starEach es X.env)).any (·.1) = false := by rfl) : EN X E (.Call (.Name x p) (e :: es) [] pos) (mBI hc fs) :=
  pe_imp (pe_callTy hr hg hm hv ha hn hdb he hpl) fun σ H Q ⟨ρ, O, FF, s, p⟩ => ⟨ρ, O, FF, s, p.bind.imp fun ds p1 vs H1 e1 r1 => hh H1 O vs ds Q (s.same e1).dom r1 (p1.vn e1)⟩

/-! ### o[i], o[i:j], o.f, text methods -/
theorem ef_ix (hr : IxR X r) (hh : Op2 X.K r h) (ha : EB X E a f) (hb : EB X E b g) (hs : PlainIx b := by exact fun _ _ => rfl) : EF X E (.Subscript a b pos) (mOp2 h f g) :=
  pe_imp (pe_ix hr ha hb hs) fun σ H Q hq => seq2 (P := fun H O d Q => ∀ v H', Same H H' → Rep X.K H' O v d → Q v H') hq fun O H1 x y dx dy e1 d1 rx ry p => hh H1 O x y dx dy Q d1 rx ry (p.vp e1)
/-- parts of a slice -/
def tEO (K : PySem.W.Frag) (E : EX) (f : Sls → Res (Option Int)) : TO := fun σ H Q => ∃ ρ O F, Sta K H O σ ρ F ∧ Po K E σ H (f ρ) fun d => ∀ H', Same H H' → Q d H'
abbrev EO (X : Cx) (E : EX) (e : Option Expr) (f : Sls → Res (Option Int)) : Prop := PO X e (tEO X.K E f)
theorem po_imp {e : Option Expr} {t t' : TO} (h : PO X e t) (i : ∀ σ H Q, t' σ H Q → t σ H Q) : PO X e t' := ⟨fun pins s σ H Q I q => h.run pins s σ H Q I (i σ H Q q)⟩
def mNoPart : Sls → Res (Option Int) := fun _ => ok none
def asI : D → Option Int
  | .int i => some i
  | _ => none
def mPart (f : Sls → Res D) : Sls → Res (Option Int) := fun ρ => f ρ >>= fun x => ofO (asI x) >>= fun i => ok (some i)
theorem eo_none : EO X E none mNoPart := po_imp po_none fun σ H Q ⟨ρ, O, F, s, p⟩ => p H (Same.refl H)
theorem eo_some (he : EF X E e f) : EO X E (some e) (mPart f) := po_imp (po_some he) fun σ H Q ⟨ρ, O, F, s, p⟩ => ⟨ρ, O, F, s, p.bind.imp fun d p1 v H1 e1 r1 => by
  cases d with
  | int i => cases r1; exact ⟨i, rfl, p1 H1 e1⟩
  | _ => exact p1.elim⟩
abbrev Sl3 (K : PySem.W.Frag) (r : V → Option Int → Option Int → Hp → VK → Prop) (h : D → Option Int → Option Int → Option D) : Prop := ∀ H O x dx lo hi Q, Dom H O → RepB K H O x dx → VP K H O Q (h dx lo hi) → r x lo hi H Q
abbrev Sl3N (K : PySem.W.Frag) (r : V → Option Int → Option Int → Hp → VK → Prop) (h : D → Option Int → Option Int → Option D) : Prop := ∀ H O x dx lo hi Q, Dom H O → RepB K H O x dx → VN K H O Q (h dx lo hi) → r x lo hi H Q
def mSl (h : D → Option Int → Option Int → Option D) (f : Sls → Res D) (l u : Sls → Res (Option Int)) : Sls → Res D := fun ρ => f ρ >>= fun x => l ρ >>= fun lo => u ρ >>= fun hi => ofO (h x lo hi)
variable {rs : V → Option Int → Option Int → Hp → VK → Prop} {h3 : D → Option Int → Option Int → Option D} {lo hi : Option Expr} {l u : Sls → Res (Option Int)} {p2 : Pos}
theorem ef_sl (hr : SlR X rs) (hh : Sl3 X.K rs h3) (ha : EB X E a f) (hl : EO X E lo l) (hu : EO X E hi u) : EF X E (.Subscript a (.Slice lo hi none p2) pos) (mSl h3 f l u) :=
  pe_imp (pe_slice hr ha hl hu) fun σ H Q ⟨ρ, O, F, s, p⟩ => ⟨ρ, O, F, s, p.bind.imp fun dx p1 x H1 e1 r1 => ⟨ρ, O, F, s.same e1, (p1.bind.imp fun lo p2 H2 e2 => ⟨ρ, O, F, s.same (e1.trans e2), (p2.bind.imp fun hi p3 H3 e3 =>
    hh H3 O x dx lo hi Q (s.same ((e1.trans e2).trans e3)).dom ((r1.same e2).same e3) (p3.vp ((e1.trans e2).trans e3))).later (e1.trans e2)⟩).later e1⟩⟩
theorem en_sl (hr : SlR X rs) (hh : Sl3N X.K rs h3) (ha : EB X E a f) (hl : EO X E lo l) (hu : EO X E hi u) : EN X E (.Subscript a (.Slice lo hi none p2) pos) (mSl h3 f l u) :=
  pe_imp (pe_slice hr ha hl hu) fun σ H Q ⟨ρ, O, F, s, p⟩ => ⟨ρ, O, F, s, p.bind.imp fun dx p1 x H1 e1 r1 => ⟨ρ, O, F, s.same e1, (p1.bind.imp fun lo p2 H2 e2 => ⟨ρ, O, F, s.same (e1.trans e2), (p2.bind.imp fun hi p3 H3 e3 =>
    hh H3 O x dx lo hi Q (s.same ((e1.trans e2).trans e3)).dom ((r1.same e2).same e3) (p3.vn ((e1.trans e2).trans e3))).later (e1.trans e2)⟩).later e1⟩⟩
def fld (fn : Str) : D → Option D
  | .obj _ gs => gs.lookup fn
  | _ => none
theorem RepFs.look {K : PySem.W.Frag} {H : Hp} {O : Addr → Prop} {fn : Str} : ∀ {fs gs} {d : D}, RepFs K H O fs gs → gs.lookup fn = some d → ∃ v, fs.lookup fn = some v ∧ Rep K H O v d
  | _, _, _, .nil, e => by simp at e
  | _, _, _, .cons (x := y) r t, e => by
    rw [List.lookup_cons] at e ⊢
    split at e
    · simp at e
      subst e
      exact ⟨_, rfl, r⟩
    · exact t.look e
/-- what the written part says of a class's fields -/
def FldOk (K : PySem.W.Frag) (fn : Str) (c : Str) : Prop := Cls K (He.ga K c) ∧ NoAttr K (He.ga K c) fn
def mFld (cs : List Str) (fn : Str) (f : Sls → Res D) : Sls → Res D := fun ρ => f ρ >>= fun x => match x with
  | .obj c gs => if c ∈ cs then ofO (gs.lookup fn) else bad
  | _ => bad
theorem ef_fld {cs : List Str} {fn : Str} (hk : ∀ c ∈ cs, FldOk X.K fn c) (ha : EB X E e f) (hb : attributeBase e fn X.env (eval e X.env) = eval e X.env := by rfl) : EF X E (.Attribute e fn pos) (mFld cs fn f) :=
  pe_imp (pe_fld ha hb) fun σ H Q ⟨ρ, O, F, s, p⟩ => ⟨ρ, O, F, s, p.bind.imp fun d p1 v H1 e1 r1 => by
    cases d with
    | obj c gs =>
      by_cases hc : c ∈ cs
      · have p1' : Po X.K E σ H (ofO (gs.lookup fn)) fun d => ∀ v H', Same H H' → Rep X.K H' O v d → Q v H' := by
          simp only [hc, if_true] at p1
          exact p1
        cases q : gs.lookup fn with
        | none => rw [q] at p1'; exact p1'.elim
        | some d' =>
          rw [q] at p1'
          obtain ⟨a, dx, fs, ev, h1, rf⟩ := r1.obj
          obtain ⟨v', e2, r2⟩ := rf.look q
          exact ⟨a, _, dx, fs, v', ev, h1, (hk c hc).1, (hk c hc).2, e2, p1' v' H1 e1 r2⟩
      · simp only [hc, if_false] at p1
        exact p1.elim
    | _ => exact p1.elim⟩
/-! ### methods of texts -/
theorem pe_m1' {id : String} {name : Str} {apos pos : Pos} {o : Expr} {to te : TE} {r : V → List V → Hp → VK → Prop} (slot : Slot "str" name id) (ty : typeOf (.builtin id) = pure (.type "method_descriptor")) (rule : MtR X id r) (ho : PE X o to) (he : PE X e te)
    (hs : starEach [e] X.env = [(false, eval e X.env)] := by rfl) (hbase : attributeBase o name X.env (eval o X.env) = eval o X.env := by rfl) (hline : (apos.endLine == pos.line) = true := by rfl) :
    PE X (.Call (.Attribute o name apos) [e] [] pos) (tM1 r to te) := pe_m1 slot ty rule ho he hs hbase hline
abbrev Mt1 (K : PySem.W.Frag) (r : V → List V → Hp → VK → Prop) (h : D → D → Option D) : Prop := ∀ H O x y dx dy Q, Dom H O → RepB K H O x dx → RepB K H O y dy → VP K H O Q (h dx dy) → r x [y] H Q
def isS : D → Bool
  | .str _ => true
  | _ => false
def mM1 (h : D → D → Option D) (f g : Sls → Res D) : Sls → Res D := fun ρ => f ρ >>= fun x => (if isS x then ok x else bad) >>= fun _ => g ρ >>= fun y => ofO (h x y)
theorem ef_m1 {id : String} {name : Str} {apos pos : Pos} {o : Expr} {r : V → List V → Hp → VK → Prop} (slot : Slot "str" name id) (ty : typeOf (.builtin id) = pure (.type "method_descriptor")) (rule : MtR X id r) (hh : Mt1 X.K r h) (ho : EB X E o f) (he : EB X E e g)
    (hs : starEach [e] X.env = [(false, eval e X.env)] := by rfl) (hbase : attributeBase o name X.env (eval o X.env) = eval o X.env := by rfl) (hline : (apos.endLine == pos.line) = true := by rfl) :
    EF X E (.Call (.Attribute o name apos) [e] [] pos) (mM1 h f g) :=
  pe_imp (pe_m1 slot ty rule ho he hs hbase hline) fun σ H Q ⟨ρ, O, F, s, p⟩ => ⟨ρ, O, F, s, p.bind.imp fun dx p1 x H1 e1 r1 => by
    cases dx with
    | str z =>
      have ex := r1.str
      subst ex
      refine ⟨⟨z, rfl⟩, ρ, O, F, s.same e1, ((show Po X.K E σ H (g ρ >>= fun y => ofO (h (.str z) y)) _ from p1).bind.imp fun dy p2 y H2 e2 r2 => ?_).later e1⟩
      exact hh H2 O _ y _ dy Q (s.same (e1.trans e2)).dom (r1.same e2) r2 (p2.vp (e1.trans e2))
    | _ => exact p1.elim⟩
end
end PP

namespace PP
open PySem PySem.Spec PyProof.Rows L2
open Res (ok exc bad)

/-! ### comprehensions -/
/-- one turn: a kept item, or none -/
def compL (step : D → Res (Option D)) : List D → Res (List D)
  | [] => ok []
  | x :: xs => (step x).quiet >>= fun r => compL step xs >>= fun ys => ok (match r with | some y => y :: ys | none => ys)
/-- what is walked -/
def wipeS (ρ : Sls) : List Nat → Sls
  | [] => ρ
  | v :: vs => (wipeS ρ vs).set v .no
theorem Sta.wipe {K : PySem.W.Frag} {H : Hp} {O : Addr → Prop} {σ : L2.St} {ρ : Sls} {F : List Addr} (s : Sta K H O σ ρ F) : ∀ vs : List Nat, ∃ F', Sta K H O (L2.wipe σ vs) (wipeS ρ vs) F'
  | [] => ⟨F, s⟩
  | v :: vs => by
    obtain ⟨F', s'⟩ := Sta.wipe s vs
    obtain ⟨F2, h1, _⟩ := s'.st.setN v none
    exact ⟨F2, h1, s'.dom⟩
/-- targets: what a value, stored, makes of the slots (all pure) -/
abbrev TgF := D → Sls → Res Sls
def tgName (i : Nat) : TgF := fun d ρ => ok (ρ.set i (.fz d))
def tgsNil : List D → Sls → Res Sls
  | [], ρ => ok ρ
  | _, _ => bad
def tgsCons (t : TgF) (u : List D → Sls → Res Sls) : List D → Sls → Res Sls
  | d :: ds, ρ => t d ρ >>= fun ρ' => u ds ρ'
  | [], _ => bad
def tgTup (n : Nat) (t : List D → Sls → Res Sls) : TgF
  | .tup ds, ρ => if ds.length = n then t ds ρ else bad
  | _, _ => bad
/-- the stored state is to reach -/
def Go (K : PySem.W.Frag) (H : Hp) (O : Addr → Prop) (F : List Addr) (Q : L2.St → Hp → Prop) : Res Sls → Prop
  | .ok ρ' => ∀ σ' F', Sta K H O σ' ρ' F' → (∀ a ∈ F', a ∈ F) → Q σ' H
  | _ => False
theorem Go.bind {K : PySem.W.Frag} {H : Hp} {O : Addr → Prop} {F : List Addr} {Q : L2.St → Hp → Prop} {r : Res Sls} {k : Sls → Res Sls} (h : Go K H O F Q (r >>= k)) : ∃ ρ', r = ok ρ' ∧ ∀ F', (∀ a ∈ F', a ∈ F) → Go K H O F' Q (k ρ') := by
  cases r with
  | ok ρ' =>
    refine ⟨ρ', rfl, fun F' sub => ?_⟩
    have h' : Go K H O F Q (k ρ') := h
    cases q : k ρ' with
    | ok ρ2 => rw [q] at h'; exact fun σ2 F2 s2 sub2 => h' σ2 F2 s2 fun a ha => sub a (sub2 a ha)
    | exc c => rw [q] at h'; exact h'.elim
    | bad => rw [q] at h'; exact h'.elim
  | exc c => exact h.elim
  | bad => exact h.elim
/-- a target's rule; it stores in the slots vs alone -/
structure TG (K : PySem.W.Frag) (g : L2.TG) (t : TgF) (vs : List Nat) : Prop where
  run : ∀ H O v d σ ρ F (Q : L2.St → Hp → Prop), Sta K H O σ ρ F → Rep K H O v d → Go K H O F Q (t d ρ) → g v σ H Q
  own : ∀ v σ H Q, g v σ H Q → g v σ H fun σ2 H2 => (∀ j, j ∉ vs → σ2[j]? = σ[j]?) ∧ σ2.length = σ.length ∧ Q σ2 H2
  mono : ∀ v σ H (Q Q' : L2.St → Hp → Prop), (∀ σ H, Q σ H → Q' σ H) → g v σ H Q → g v σ H Q'
structure TGs (K : PySem.W.Frag) (g : L2.TGs) (t : List D → Sls → Res Sls) (vs : List Nat) : Prop where
  run : ∀ H O us ds σ ρ F (Q : L2.St → Hp → Prop), Sta K H O σ ρ F → Reps K H O us ds → Go K H O F Q (t ds ρ) → g us σ H Q
  own : ∀ us σ H Q, g us σ H Q → g us σ H fun σ2 H2 => (∀ j, j ∉ vs → σ2[j]? = σ[j]?) ∧ σ2.length = σ.length ∧ Q σ2 H2
  mono : ∀ v σ H (Q Q' : L2.St → Hp → Prop), (∀ σ H, Q σ H → Q' σ H) → g v σ H Q → g v σ H Q'
theorem tg_name {K : PySem.W.Frag} (i : Nat) {vs : List Nat} (hi : i ∈ vs := by decide) : TG K (gName i) (tgName i) vs := by
  refine ⟨fun H O v d σ ρ F Q s r h => ?_, fun v σ H Q h => ⟨fun j hj => ?_, by simp, h⟩, fun v σ H Q Q' m h => m _ _ h⟩
  · obtain ⟨F', h1, h2⟩ := RSt.setF r i s.st
    exact h _ F' ⟨h1, s.dom⟩ h2
  · exact List.getElem?_set_ne (fun e => hj (by rw [← e]; exact hi))
theorem tgs_nil {K : PySem.W.Frag} {vs : List Nat} : TGs K gNil tgsNil vs := by
  refine ⟨fun H O us ds σ ρ F Q s r h => ?_, fun us σ H Q h => ⟨h.1, fun j _ => rfl, rfl, h.2⟩, fun us σ H Q Q' m h => ⟨h.1, m _ _ h.2⟩⟩
  cases r with
  | nil => exact ⟨rfl, h σ F s fun _ q => q⟩
  | cons _ _ => exact h.elim
theorem tgs_cons {K : PySem.W.Frag} {g : L2.TG} {t : TgF} {gs : L2.TGs} {ts : List D → Sls → Res Sls} {vs : List Nat} (h1 : TG K g t vs) (h2 : TGs K gs ts vs) : TGs K (gCons g gs) (tgsCons t ts) vs := by
  refine ⟨fun H O us ds σ ρ F Q s r h => ?_, fun us σ H Q h => ?_, fun us σ H Q Q' m h => ?_⟩
  · cases r with
    | nil => exact h.elim
    | @cons v d us ds rv rs =>
      obtain ⟨ρ', e, k⟩ := Go.bind (show Go K H O F Q (t d ρ >>= fun ρ' => ts ds ρ') from h)
      refine ⟨v, us, rfl, h1.run H O v d σ ρ F _ s rv ?_⟩
      rw [e]
      exact fun σ' F' s' sub => h2.run H O us ds σ' ρ' F' Q s' rs (k F' sub)
  · obtain ⟨v, r, e, h⟩ := h
    refine ⟨v, r, e, h1.mono _ _ _ _ _ (fun σ1 H1 ⟨a1, l1, q1⟩ => ?_) (h1.own v σ H _ h)⟩
    exact h2.mono _ _ _ _ _ (fun σ2 H2 ⟨a2, l2, q2⟩ => ⟨fun j hj => (a2 j hj).trans (a1 j hj), l2.trans l1, q2⟩) (h2.own r σ1 H1 Q q1)
  · obtain ⟨v, r, e, h⟩ := h
    exact ⟨v, r, e, h1.mono _ _ _ _ _ (fun σ1 H1 q1 => h2.mono _ _ _ _ _ m q1) h⟩
theorem tg_tup {K : PySem.W.Frag} {n : Nat} {gs : L2.TGs} {ts : List D → Sls → Res Sls} {vs : List Nat} (h1 : TGs K gs ts vs) : TG K (gTup K n gs) (tgTup n ts) vs := by
  refine ⟨fun H O v d σ ρ F Q s r h => ?_, fun v σ H Q h => ?_, fun v σ H Q Q' m h => ?_⟩
  · cases r with
    | tup hs z rs =>
      rename_i ds
      unfold tgTup at h
      by_cases e : ds.length = n
      · simp only [e, if_true] at h
        exact ⟨_, _, rfl, hs, by rw [rs.length]; exact e, h1.run H O _ _ σ ρ F Q s rs h⟩
      · simp only [e, if_false] at h
        exact h.elim
    | _ => exact h.elim
  · obtain ⟨a, xs, e1, e2, e3, h⟩ := h
    exact ⟨a, xs, e1, e2, e3, h1.own _ _ _ _ h⟩
  · obtain ⟨a, xs, e1, e2, e3, h⟩ := h
    exact ⟨a, xs, e1, e2, e3, h1.mono _ _ _ _ _ m h⟩
theorem wipe_get {σ : L2.St} {j : Nat} : ∀ {vs : List Nat}, (L2.wipe σ vs)[j]? = if j ∈ vs then (σ[j]?).map (fun _ => none) else σ[j]?
  | [] => by simp [L2.wipe]
  | v :: vs => by
    unfold L2.wipe
    by_cases e : v = j
    · subst e
      have hl := L2.wipe_length σ vs
      by_cases hj : v < (L2.wipe σ vs).length
      · rw [List.getElem?_set_self hj]
        rw [hl] at hj
        simp [hj]
      · rw [List.getElem?_eq_none (by simpa using hj)]
        rw [hl] at hj
        simp [List.getElem?_eq_none (Nat.le_of_not_lt hj)]
    · rw [List.getElem?_set_ne e, wipe_get (vs := vs)]
      have e' : j ≠ v := Ne.symm e
      simp [e']
theorem wipe_of {σ σ2 : L2.St} {vs : List Nat} (h : ∀ j, j ∉ vs → σ2[j]? = (L2.wipe σ vs)[j]?) (l : σ2.length = (L2.wipe σ vs).length) : L2.wipe σ2 vs = L2.wipe σ vs := by
  apply List.ext_getElem?
  intro j
  rw [wipe_get, wipe_get]
  by_cases hj : j ∈ vs
  · simp only [hj, if_true]
    rw [L2.wipe_length] at l
    by_cases hl : j < σ.length
    · simp [hl, l]
    · simp [List.getElem?_eq_none (Nat.le_of_not_lt hl), List.getElem?_eq_none (show σ2.length ≤ j by omega)]
  · simp only [hj, if_false]
    rw [h j hj, wipe_get]
    simp [hj]

/-! ### what is walked -/
def Later (H : Hp) (O : Addr → Prop) (H' : Hp) (O' : Addr → Prop) : Prop := ∀ a o, H a = some o → ¬ O a → H' a = some o ∧ ¬ O' a
section
variable {K : PySem.W.Frag} {H H' : Hp} {O O' : Addr → Prop} {a : Addr}
theorem Later.rd {u : HO} (l : Later H O H' O') (h : Rd H a u) (n : ¬ O a) : Rd H' a u ∧ ¬ O' a := by
  rcases h with h | ⟨o, h⟩
  · exact ⟨.inl (l _ _ h n).1, (l _ _ h n).2⟩
  · exact ⟨.inr ⟨o, (l _ _ h n).1⟩, (l _ _ h n).2⟩
theorem Later.sqf {xs : List V} (l : Later H O H' O') (h : SqF K H O a xs) : SqF K H' O' a xs := by
  rcases h with ⟨h, n⟩ | h
  · exact .inl (l.rd h n)
  · exact .inr h
theorem Later.sqt {xs : List V} (d : Dom H O) (l : Later H O H' O') (h : SqT K H a xs) : SqT K H' a xs := by
  rcases h with h | h
  · exact .inl (l.rd h fun z => (d a z).2 xs h).1
  · exact .inr h
mutual
theorem Rep.later (d : Dom H O) (l : Later H O H' O') : ∀ {v x}, Rep K H O v x → Rep K H' O' v x
  | _, _, .non => .non
  | _, _, .bl b => .bl b
  | _, _, .int i => .int i
  | _, _, .str x => .str x
  | _, _, .ty n => .ty n
  | _, _, .tup h z r => .tup (l.sqt d h) z (Reps.later d l r)
  | _, _, .lst h n z r => .lst (l.rd h n).1 (l.rd h n).2 z (Reps.later d l r)
  | _, _, .kl h z r => .kl (l.sqf h) z (Reps.later d l r)
  | _, _, .obj h n r => .obj (l _ _ h n).1 (l _ _ h n).2 (RepFs.later d l r)
theorem Reps.later (d : Dom H O) (l : Later H O H' O') : ∀ {v x}, Reps K H O v x → Reps K H' O' v x
  | _, _, .nil => .nil
  | _, _, .cons r t => .cons (Rep.later d l r) (Reps.later d l t)
theorem RepFs.later (d : Dom H O) (l : Later H O H' O') : ∀ {v x}, RepFs K H O v x → RepFs K H' O' v x
  | _, _, .nil => .nil
  | _, _, .cons r t => .cons (Rep.later d l r) (RepFs.later d l t)
end
theorem Tr.later {F F' : List Addr} {σ : L2.St} {ρ : Sls} (s : Sta K H O σ ρ F) (t : Tr H O F H' O' F') : Later H O H' O' := fun a o h n =>
  ⟨t.keep a o h fun z => n (s.st.owned a z).1, fun z => (t.back a z).elim n fun q => by rw [h] at q; cases q⟩
theorem Later.refl : Later H O H O := fun _ _ h n => ⟨h, n⟩
theorem Later.same (e : Same H H') : Later H O H' O := fun a o h n => ⟨e a o h, n⟩
theorem Later.trans {H2 : Hp} {O2 : Addr → Prop} (x : Later H O H' O') (y : Later H' O' H2 O2) : Later H O H2 O2 := fun a o h n => y a o (x a o h n).1 (x a o h n).2
end
/-- the iterator J gives the items, as long as what is not owned stands -/
def Wk (K : PySem.W.Frag) (J : It) (items : List D) (H : Hp) (O : Addr → Prop) : Prop := ∀ H2 O2, Later H O H2 O2 → ∀ i,
  (∀ d, items[i]? = some d → J.go i H2 ∧ ∀ x H3, J.yld i H2 x H3 → Same H2 H3 ∧ Rep K H3 O2 x d) ∧ (items.length ≤ i → J.stop i H2)
def tEI (K : PySem.W.Frag) (E : EX) (f : Sls → Res (List D)) : TI := fun σ H R => ∃ ρ O F, Sta K H O σ ρ F ∧ Po K E σ H (f ρ) fun ds => ∀ J H', Same H H' → ds.length ≤ sizeLine → Wk K J ds H' O → R J H'
abbrev EI (X : Cx) (E : EX) (tg iter : Expr) (f : Sls → Res (List D)) : Prop := PI X tg iter (tEI X.K E f)
theorem big_line : 4000000 ≤ sizeLine := by rw [sizeLine_eq]; decide
section
variable {K : PySem.W.Frag} {H : Hp} {O : Addr → Prop} {a : Addr} {vs : List V} {ds : List D}
theorem wk_list (d : Dom H O) (h : SqF K H O a vs) (r : Reps K H O vs ds) : Wk K (Itl K a) ds H O := by
  intro H2 O2 l i
  have h2 := (l.sqf h).sql
  have r2 := r.later d l
  refine ⟨fun x e => ?_, fun hi => ⟨vs, h2, by rw [r.length]; exact hi⟩⟩
  obtain ⟨v, e1, rv⟩ := r2.get e
  refine ⟨⟨vs, v, h2, e1⟩, fun y H3 hy => ?_⟩
  obtain ⟨e3, hy⟩ := hy
  subst e3
  have e4 := hy vs h2
  rw [e1] at e4
  cases e4
  exact ⟨Same.refl _, rv⟩
theorem wk_tup (d : Dom H O) (h : SqT K H a vs) (r : Reps K H O vs ds) : Wk K (Itt K a) ds H O := by
  intro H2 O2 l i
  have h2 := l.sqt d h
  have r2 := r.later d l
  refine ⟨fun x e => ?_, fun hi => ⟨vs, h2, by rw [r.length]; exact hi⟩⟩
  obtain ⟨v, e1, rv⟩ := r2.get e
  refine ⟨⟨vs, v, h2, e1⟩, fun y H3 hy => ?_⟩
  obtain ⟨e3, hy⟩ := hy
  subst e3
  have e4 := hy vs h2
  rw [e1] at e4
  cases e4
  exact ⟨Same.refl _, rv⟩
/-- the signs of a text -/
def signs (z : Str) : List D := z.cps.toList.map fun c => .str ⟨#[c]⟩
theorem wk_str (z : Str) : Wk K (Its z) (signs z) H O := by
  intro H2 O2 l i
  refine ⟨fun x e => ?_, fun hi => by show z.cps.size ≤ i; simpa [signs] using hi⟩
  unfold signs at e
  rw [List.getElem?_map] at e
  cases q : z.cps.toList[i]? with
  | none => rw [q] at e; cases e
  | some c =>
    rw [q] at e
    cases e
    have q' : z.cps[i]? = some c := by simpa using q
    refine ⟨?_, fun y H3 hy => ?_⟩
    · show i < z.cps.size
      exact (Array.getElem?_eq_some_iff.mp q').1
    · obtain ⟨e3, c', e4, e5⟩ := hy
      subst e3 e5
      rw [q'] at e4
      cases e4
      exact ⟨Same.refl _, .str _⟩
def rangeD (lo : Int) (n : Nat) : List D := (List.range n).map fun i : Nat => .int (lo + (i : Int))
theorem wk_range (lo : Int) (n : Nat) : Wk K (Itr lo n) (rangeD lo n) H O := by
  intro H2 O2 l i
  refine ⟨fun x e => ?_, fun hi => by show n ≤ i; simpa [rangeD] using hi⟩
  unfold rangeD at e
  rw [List.getElem?_map] at e
  by_cases hi : i < n
  · rw [List.getElem?_range hi] at e
    cases e
    refine ⟨hi, fun y H3 hy => ?_⟩
    obtain ⟨e3, e4⟩ := hy
    subst e3 e4
    exact ⟨Same.refl _, .int _⟩
  · rw [List.getElem?_eq_none (by simpa using hi)] at e
    cases e
end
section
variable {X : Cx} {E : EX} {e tg : Expr} {f g : Sls → Res D}
theorem pi_imp {t t' : TI} (h : PI X tg e t) (i : ∀ σ H Q, t' σ H Q → t σ H Q) : PI X tg e t' := ⟨fun pins s σ H Q I q => h.run pins s σ H Q I (i σ H Q q)⟩
/-- a list, a tuple or a text -/
def iAny (K : PySem.W.Frag) (te : TE) : TI := fun σ H R => te σ H fun x H1 => (∃ a xs, x = .ref a ∧ SqL K H1 a xs ∧ R (Itl K a) H1) ∨ (∃ a xs, x = .ref a ∧ SqT K H1 a xs ∧ R (Itt K a) H1) ∨ (∃ z, x = .str z ∧ R (Its z) H1)
theorem pi_any {te : TE} (he : PE X e te) : PI X tg e (iAny X.K te) := by
  refine ⟨fun pins s σ H R I h => ?_⟩
  refine thn (he.run pins s σ H _ I h) fun v s1 ⟨x, H1, I1, r1, q1⟩ => ?_
  have one : ∀ {wi : TI}, (PI X tg e wi → False) → True := fun _ => trivial
  rcases q1 with ⟨a, xs, e1, hq, q⟩ | ⟨a, xs, e1, hq, q⟩ | ⟨z, e1, q⟩
  · subst e1
    cases r1
    obtain ⟨its, rv, p, hz⟩ := I1.list hq
    refine wpAny_pyIter_list p.isList ?_
    refine ⟨s1.heap.objs.size, [s1.heap.objs.size], _, _, H1, rfl, I1.kept (t' := s1.toks) fun b o e => Heap.get?_push_of_some _ e, turn_list a _, ⟨_, Heap.get?_push_size _ rfl, rfl, rfl⟩, fun b hb => ?_, q⟩
    have e : b = s1.heap.objs.size := by simpa using hb
    subst e
    exact I1.fpOk (Nat.le_refl _) (I1.hok.fresh (Nat.le_refl _))
  · subst e1
    cases r1
    obtain ⟨its, rv, p, hz⟩ := I1.tuple hq
    refine wpAny_pyIter_tuple (show s1.heap.IsTuple a its.toArray from p) ?_
    refine ⟨s1.heap.objs.size, [s1.heap.objs.size], _, _, H1, rfl, I1.kept (t' := s1.toks) fun b o e => Heap.get?_push_of_some _ e, turn_tuple a _, ⟨_, Heap.get?_push_size _ rfl, rfl, rfl⟩, fun b hb => ?_, q⟩
    have e : b = s1.heap.objs.size := by simpa using hb
    subst e
    exact I1.fpOk (Nat.le_refl _) (I1.hok.fresh (Nat.le_refl _))
  · subst e1
    obtain ⟨t, rfl⟩ := r1
    cases ha : z.cps.all (· < 128)
    · exact wpAny_pyIter_wide ha (pi_one (tk := s1.toks) I1 _ (turn_str _ z t "str_iterator" (.inr rfl)) ⟨_, Heap.get?_push_size _ rfl, rfl, rfl⟩ q)
    · exact wpAny_pyIter_ascii ha (pi_one (tk := s1.toks) I1 _ (turn_str _ z t "str_ascii_iterator" (.inl rfl)) ⟨_, Heap.get?_push_size _ rfl, rfl, rfl⟩ q)
def items : D → Option (List D)
  | .lst ds => some ds
  | .kl ds => some ds
  | .tup ds => some ds
  | .str z => if z.cps.size ≤ 1000000 then some (signs z) else none
  | _ => none
def mIt (f : Sls → Res D) : Sls → Res (List D) := fun ρ => f ρ >>= fun d => ofO (items d)
theorem ei_any (he : EF X E e f) : EI X E tg e (mIt f) := pi_imp (pi_any he) fun σ H R ⟨ρ, O, F, s, p⟩ => ⟨ρ, O, F, s, p.bind.imp fun d p1 v H1 e1 r1 => by
  have dm := (s.same e1).dom
  cases d with
  | lst ds =>
    cases r1 with
    | lst h n z r => exact .inl ⟨_, _, rfl, .inl h, p1 _ H1 e1 (by rw [← r.length]; exact z) (wk_list dm (.inl ⟨h, n⟩) r)⟩
  | kl ds =>
    cases r1 with
    | kl h z r => exact .inl ⟨_, _, rfl, h.sql, p1 _ H1 e1 (by rw [← r.length]; exact z) (wk_list dm h r)⟩
  | tup ds =>
    cases r1 with
    | tup h z r => exact .inr (.inl ⟨_, _, rfl, h, p1 _ H1 e1 (by rw [← r.length]; exact z) (wk_tup dm h r)⟩)
  | str x =>
    cases r1
    unfold items at p1
    by_cases hx : x.cps.size ≤ 1000000
    · simp only [hx, if_true] at p1
      exact .inr (.inr ⟨x, rfl, p1 _ H1 e1 (by simp [signs]; exact Nat.le_trans hx (Nat.le_trans (by decide) big_line)) (wk_str x)⟩)
    · simp only [hx, if_false] at p1
      exact p1.elim
  | _ => exact p1.elim⟩
def rng1 : List D → Option (List D)
  | [.int j] => if j ≤ 1000000 ∧ -1000000 ≤ j then some (rangeD 0 j.toNat) else none
  | _ => none
def rng2 : List D → Option (List D)
  | [.int i, .int j] => if (j ≤ 1000000 ∧ -1000000 ≤ j) ∧ (i ≤ 1000000 ∧ -1000000 ≤ i) then some (rangeD i (j - i).toNat) else none
  | _ => none
def mRng (h : List D → Option (List D)) (fs : List (Sls → Res D)) : Sls → Res (List D) := fun ρ => mArgs fs ρ >>= fun ds => ofO (h ds)
variable {a b : Expr} {fs : List (Sls → Res D)} {p pos : Pos}
theorem ei_range1 (hm : X.mg "range" = none) (ha : EA X E [a] (mArgs fs)) (hg : Gl X "range" := by rfl) (hs : starEach [a] X.env = [(false, eval a X.env)] := by rfl) : EI X E tg (.Call (.Name "range" p) [a] [] pos) (mRng rng1 fs) :=
  pi_imp (pi_range1 hg hm ha hs) fun σ H R ⟨ρ, O, F, s, p⟩ => ⟨ρ, O, F, s, p.bind.imp fun ds p1 vs H1 e1 r1 => by
    unfold rng1 at p1
    split at p1
    · rename_i j
      by_cases hj : j ≤ 1000000 ∧ -1000000 ≤ j
      · simp only [hj, and_self, if_true] at p1
        cases r1 with
        | cons r t =>
          cases r
          cases t
          exact ⟨j, rfl, by omega, by omega, p1 _ H1 e1 (by rw [show (rangeD 0 j.toNat).length = j.toNat from by simp [rangeD]]; exact Nat.le_trans (by omega : j.toNat ≤ 4000000) big_line) (wk_range 0 _)⟩
      · simp only [hj, if_false] at p1
        exact p1.elim
    · exact p1.elim⟩
theorem ei_range2 (hm : X.mg "range" = none) (ha : EA X E [a, b] (mArgs fs)) (hg : Gl X "range" := by rfl) (hs : starEach [a, b] X.env = [(false, eval a X.env), (false, eval b X.env)] := by rfl) (hs2 : starEach [b] X.env = [(false, eval b X.env)] := by rfl) :
    EI X E tg (.Call (.Name "range" p) [a, b] [] pos) (mRng rng2 fs) :=
  pi_imp (pi_range2 hg hm ha hs hs2) fun σ H R ⟨ρ, O, F, s, p⟩ => ⟨ρ, O, F, s, p.bind.imp fun ds p1 vs H1 e1 r1 => by
    unfold rng2 at p1
    split at p1
    · rename_i i j
      by_cases hj : (j ≤ 1000000 ∧ -1000000 ≤ j) ∧ (i ≤ 1000000 ∧ -1000000 ≤ i)
      · simp only [hj, and_self, if_true] at p1
        cases r1 with
        | cons r t =>
          cases r
          cases t with
          | cons r t =>
            cases r
            cases t
            exact ⟨i, j, rfl, by omega, p1 _ H1 e1 (by rw [show (rangeD i (j - i).toNat).length = (j - i).toNat from by simp [rangeD]]; exact Nat.le_trans (by omega : (j - i).toNat ≤ 4000000) big_line) (wk_range i _)⟩
      · simp only [hj, if_false] at p1
        exact p1.elim
    · exact p1.elim⟩
/-! ### comprehensions -/
abbrev E0' : EX := fun _ _ _ _ => False
/-- the tests of a clause -/
abbrev ETs (X : Cx) (E : EX) (es : List Expr) (f : Sls → Res Bool) : Prop := PTs X es (tET X.K E f)
def mYes : Sls → Res Bool := fun _ => ok true
theorem pts_imp {es : List Expr} {t t' : TT} (h : PTs X es t) (i : ∀ σ H Q, t' σ H Q → t σ H Q) : PTs X es t' := ⟨fun pins s σ H Q I q => h.run pins s σ H Q I (i σ H Q q)⟩
theorem ets_nil : ETs X E [] mYes := pts_imp pts_nil fun σ H Q ⟨ρ, O, F, s, p⟩ => p H (Same.refl H)
theorem ets_one {c : Expr} {t : Sls → Res Bool} (h : ET X E c t) : ETs X E [c] t := pts_one h
def lcStep (vs : List Nat) (t : TgF) (tt : Sls → Res Bool) (te : Sls → Res D) (ρ : Sls) (x : D) : Res (Option D) :=
  t x (wipeS ρ vs) >>= fun ρ' => tt ρ' >>= fun b => if b then te ρ' >>= fun y => ok (some y) else ok none
def mLc (it : Sls → Res (List D)) (vs : List Nat) (t : TgF) (tt : Sls → Res Bool) (te : Sls → Res D) : Sls → Res D := fun ρ =>
  it ρ >>= fun xs => compL (lcStep vs t tt te ρ) xs >>= fun ys => ok (.lst ys)
theorem Res.quiet_bind {α β : Type} {r : Res α} {k : α → Res β} {b : β} (h : (r.quiet >>= k) = ok b) : ∃ a, r = ok a ∧ k a = ok b := by
  cases r with
  | ok a => exact ⟨a, rfl, h⟩
  | exc c => cases h
  | bad => cases h
theorem Res.bind_ok {α β : Type} {r : Res α} {k : α → Res β} {b : β} (h : (r >>= k) = ok b) : ∃ a, r = ok a ∧ k a = ok b := by
  cases r with
  | ok a => exact ⟨a, rfl, h⟩
  | exc c => cases h
  | bad => cases h
theorem compL_cons {step : D → Res (Option D)} {x : D} {xs ys : List D} (h : compL step (x :: xs) = ok ys) : ∃ r zs, step x = ok r ∧ compL step xs = ok zs ∧ ys = (match r with | some y => y :: zs | none => zs) := by
  obtain ⟨r, h1, h2⟩ := Res.quiet_bind (show ((step x).quiet >>= fun r => compL step xs >>= fun ys => ok (match r with | some y => y :: ys | none => ys)) = ok ys from h)
  obtain ⟨zs, h3, h4⟩ := Res.bind_ok h2
  cases h4
  exact ⟨r, zs, h1, h3, rfl⟩
theorem compL_exc {step : D → Res (Option D)} {c : Str} : ∀ {xs : List D}, compL step xs ≠ exc c
  | [], h => by cases h
  | x :: xs, h => by
    have h' : ((step x).quiet >>= fun r => compL step xs >>= fun ys => ok (match r with | some y => y :: ys | none => ys)) = exc c := h
    cases q : step x with
    | ok r =>
      rw [q] at h'
      have h2 : (compL step xs >>= fun ys => ok (match r with | some y => y :: ys | none => ys)) = exc c := h'
      cases q2 : compL step xs with
      | ok ys => rw [q2] at h2; cases h2
      | exc c' => exact compL_exc q2
      | bad => rw [q2] at h2; cases h2
    | exc _ => rw [q] at h'; cases h'
    | bad => rw [q] at h'; cases h'
theorem lc_go {J : It} {items ys : List D} {g : L2.TG} {t : TgF} {tt : Sls → Res Bool} {te : Sls → Res D} {vs : List Nat} {σ : L2.St} {H1 : Hp} {O : Addr → Prop} {ρ : Sls} {F : List Addr} {D0 : Addr} {Qd : Hp → Prop} (hD : H1 D0 = none)
    (s : Sta X.K H1 O σ ρ F) (hw : Wk X.K J items H1 O) (hz : items.length ≤ sizeLine) (hg : PP.TG X.K g t vs) (hy : compL (lcStep vs t tt te ρ) items = ok ys)
    (hd : ∀ H2, Same H1 H2 → RepN X.K H2 (Ad O D0) (.ref D0) (.lst ys) D0 → Qd H2) :
    ∃ W : Nat → Nat → Hp → Prop, (∃ m, W 0 m (upd H1 D0 (.lst []))) ∧ ∀ i m H, W i m H →
      (J.stop i H ∧ Qd H) ∨ (J.go i H ∧ ∃ Nx : Hp → Prop, (∀ H', Nx H' → ∃ m', m' < m ∧ W (i + 1) m' H') ∧ ∀ x H', J.yld i H x H' → g x (L2.wipe σ vs) H' fun σ2 H2 => L2.wipe σ2 vs = L2.wipe σ vs ∧ tET X.K E0' tt σ2 H2 fun b H3 =>
        if b = true then tEF X.K E0' te σ2 H3 fun y H4 => ∃ acc, H4 D0 = some (.lst acc) ∧ acc.length < sizeLine ∧ Nx (upd H4 D0 (.lst (acc ++ [y]))) else Nx H3) := by
  -- behind i items: acc holds what they gave; the rest gives the rest
  let W : Nat → Nat → Hp → Prop := fun i m H2 => m + i = items.length ∧ Same H1 H2 ∧ ∃ acc ds rest, H2 D0 = some (.lst acc) ∧ acc.length ≤ i ∧ Reps X.K H2 (Ad O D0) acc ds ∧ compL (lcStep vs t tt te ρ) (items.drop i) = ok rest ∧ ys = ds ++ rest
  have nOD : ¬ O D0 := fun h => (s.dom D0 h).1 hD
  have key : ∀ H2, Same H1 H2 → (∃ acc, H2 D0 = some (.lst acc)) → Later H1 O H2 (Ad O D0) ∧ Dom H2 (Ad O D0) := by
    intro H2 e2 ⟨acc, hacc⟩
    refine ⟨fun a o h n => ⟨e2 a o h, fun z => z.elim n fun z => by subst z; rw [hD] at h; cases h⟩, fun a h => ?_⟩
    rcases h with h | h
    · exact (s.dom.same e2) a h
    · subst h; exact ⟨by rw [hacc]; exact fun z => (nomatch z), noTup_lst hacc⟩
  refine ⟨W, ⟨items.length, by omega, same_new hD, [], [], ys, upd_same, Nat.le_refl _, .nil, by simpa using hy, rfl⟩, ?_⟩
  rintro i m H2 ⟨hm, e2, acc, ds, rest, hacc, hlen, hr, hrest, hys⟩
  obtain ⟨lt, dm⟩ := key H2 e2 ⟨acc, hacc⟩
  obtain ⟨w1, w2⟩ := hw H2 (Ad O D0) lt i
  by_cases hi : i < items.length
  · have hget : items[i]? = some items[i] := List.getElem?_eq_getElem hi
    obtain ⟨go, yl⟩ := w1 items[i] hget
    have hdrop : items.drop i = items[i] :: items.drop (i + 1) := List.drop_eq_getElem_cons hi
    rw [hdrop] at hrest
    obtain ⟨r, zs, hstep, hzs, hrest'⟩ := compL_cons hrest
    refine .inr ⟨go, W (i + 1) (m - 1), fun H' w => ⟨m - 1, by omega, w⟩, fun x H3 hyl => ?_⟩
    obtain ⟨e3, rx⟩ := yl x H3 hyl
    have e13 := e2.trans e3
    have hacc3 := e3 _ _ hacc
    obtain ⟨_, dm3⟩ := key H3 e13 ⟨acc, hacc3⟩
    -- the block's state
    have s3 : Sta X.K H3 (Ad O D0) σ ρ F := ⟨(s.st.more hD).same e13, dm3⟩
    obtain ⟨Fw, sw⟩ := s3.wipe vs
    unfold lcStep at hstep
    obtain ⟨ρ1, ht, hstep⟩ := Res.bind_ok hstep
    obtain ⟨b, htt, hstep⟩ := Res.bind_ok hstep
    refine hg.mono _ _ _ _ _ (fun σ4 H4 q => ⟨wipe_of q.1 q.2.1, q.2.2⟩) (hg.own _ _ _ _ ?_)
    refine hg.run H3 (Ad O D0) x items[i] _ _ Fw _ sw rx ?_
    rw [ht]
    intro σ4 F4 s4 _
    refine ⟨ρ1, Ad O D0, F4, s4, ?_⟩
    rw [htt]
    intro H5 e5
    have e15 := e13.trans e5
    have hacc5 := e5 _ _ hacc3
    cases b with
    | false =>
      refine iteF ⟨by omega, e15, acc, ds, zs, hacc5, by omega, ((hr.same e3).same e5), hzs, ?_⟩
      have : r = none := by simpa using hstep.symm
      subst this
      rw [hys, hrest']
    | true =>
      refine iteT ?_
      have hstep' : (te ρ1 >>= fun y => ok (some y)) = ok r := hstep
      obtain ⟨y, hte, hstep⟩ := Res.bind_ok hstep'
      cases hstep
      refine ⟨ρ1, Ad O D0, F4, s4.same e5, ?_⟩
      rw [hte]
      intro v H6 e6 rv
      have hacc6 := e6 _ _ hacc5
      refine ⟨acc, hacc6, by omega, by omega, ?_, acc ++ [v], ds ++ [y], zs, upd_same, by simp; omega, ?_, hzs, ?_⟩
      · intro a o h
        rw [upd_ne (fun z => by subst z; rw [hD] at h; cases h)]
        exact e6 _ _ (e15 _ _ h)
      · exact ((((hr.same e3).same e5).same e6).snoc rv).upd (.inr rfl) (noTup_lst hacc6)
      · rw [hys, hrest']
        simp
  · refine .inl ⟨w2 (by omega), hd H2 e2 ⟨rfl, .inr rfl, acc, hacc, by omega, ?_⟩⟩
    rw [List.drop_eq_nil_of_le (by omega)] at hrest
    cases hrest
    rw [hys]
    simpa using hr
theorem lc_reads {own : List (Str × Nat)} {it : Sls → Res (List D)} {g : L2.TG} {t : TgF} {tt : Sls → Res Bool} {te : Sls → Res D} {σ : L2.St} {H : Hp} {Q : VK} (hgt : PP.TG X.K g t (own.map (·.2))) (hq : tEN X.K E (mLc it (own.map (·.2)) t tt te) σ H Q) :
    tLc (tEI X.K E it) g (tET X.K E0' tt) (tEF X.K E0' te) (own.map (·.2)) σ H Q := by
  obtain ⟨ρ, O, F, s, p⟩ := hq
  refine ⟨ρ, O, F, s, ?_⟩
  refine p.bind.imp fun xs p1 => ?_
  have p2 : Po X.K E σ H (compL (lcStep (own.map (·.2)) t tt te ρ) xs >>= fun ys => ok (.lst ys)) fun d => ∀ v a H', Same H H' → H a = none → RepN X.K H' (Ad O a) v d a → Q v H' := p1
  cases q : compL (lcStep (own.map (·.2)) t tt te ρ) xs with
  | exc c => exact (compL_exc q).elim
  | bad => rw [q] at p2; exact p2.elim
  | ok ys =>
    rw [q] at p2
    exact fun J H1 e1 z w D0 hD => lc_go hD (s.same e1) w z hgt q fun H2 e2 r => p2 _ D0 H2 (e1.trans e2) (e1.free hD) r
theorem en_lc {elt iter : Expr} {ifs : List Expr} {scope : Scope} {own : List (Str × Nat)} {it : Sls → Res (List D)} {g : L2.TG} {t : TgF} {tt : Sls → Res Bool} {te : Sls → Res D} (hc : X.calm = true) (hN : X.N.Nodup) (hi : EI X E tg iter it) (ok' : BlkOk X.N X.env.scope scope own)
    (hgt : PP.TG X.K g t (own.map (·.2)))
    (hg : ∀ (s : Shared) (H : Hp) (C : Addr) (cl : List (Str × Addr)) (fp : List Addr), PG (X.blk s H scope (compEnvC scope cl C X.env) fp) tg g) (ht : ∀ (s : Shared) (H : Hp) (C : Addr) (cl : List (Str × Addr)) (fp : List Addr), ETs (X.blk s H scope (compEnvC scope cl C X.env) fp) E0' ifs tt)
    (he : ∀ (s : Shared) (H : Hp) (C : Addr) (cl : List (Str × Addr)) (fp : List Addr), EF (X.blk s H scope (compEnvC scope cl C X.env) fp) E0' elt te) (hs : ∀ x, foldedSetIterable iter X.env x = pure x := by intro _; rfl) :
    EN X E (.ListComp elt [⟨tg, iter, ifs, 0⟩] scope pos) (mLc it (own.map (·.2)) t tt te) :=
  pe_imp (pe_lc (tt := tET X.K E0' tt) (te := tEF X.K E0' te) hc hN hi ok' hg ht he hs) fun σ H Q hq => lc_reads hgt hq
end
end PP

namespace PP
open PySem PySem.Spec PyProof.Rows L2
open Res (ok exc bad)

/-! ### statements -/
def FP (K : PySem.W.Frag) (E : EX) (D' : Ends) (H : Hp) (O : Addr → Prop) (F : List Addr) : Fl → Prop
  | .nx ρ' => ∀ σ' H' O' F', Sta K H' O' σ' ρ' F' → Tr H O F H' O' F' → D'.nx σ' H'
  | .rt d => ∀ v H' O' F', Rep K H' O' v d → Tr H O F H' O' F' → D'.rt v H'
  | .bk ρ' => ∀ σ' H' O' F', Sta K H' O' σ' ρ' F' → Tr H O F H' O' F' → D'.bk σ' H'
  | .ct ρ' => ∀ σ' H' O' F', Sta K H' O' σ' ρ' F' → Tr H O F H' O' F' → D'.ct σ' H'
  | .exc c ρ' => ∀ σ' H' O' F', Sta K H' O' σ' ρ' F' → Tr H O F H' O' F' → E σ' (.ref (He.ga K c)) none H'
  | .bad => False
def tSS (K : PySem.W.Frag) (E : EX) (f : Sls → Fl) : TS := fun D σ H => ∃ ρ O F, Sta K H O σ ρ F ∧ FP K E D H O F (f ρ)
abbrev SS (X : Cx) (E : EX) (st : Stmt) (f : Sls → Fl) : Prop := PS X st (tSS X.K E f)
abbrev SSs (X : Cx) (E : EX) (st : List Stmt) (f : Sls → Fl) : Prop := PSs X st (tSS X.K E f)
section
variable {K : PySem.W.Frag} {E : EX} {D' : Ends} {H H1 : Hp} {O O1 : Addr → Prop} {F F1 : List Addr} {σ : L2.St} {ρ : Sls}
theorem FP.later {fl : Fl} (s : Sta K H O σ ρ F) (t : Tr H O F H1 O1 F1) (h : FP K E D' H O F fl) : FP K E D' H1 O1 F1 fl := by
  cases fl with
  | nx ρ' => exact fun σ' H' O' F' s' t' => h σ' H' O' F' s' (t.trans s t')
  | rt d => exact fun v H' O' F' r t' => h v H' O' F' r (t.trans s t')
  | bk ρ' => exact fun σ' H' O' F' s' t' => h σ' H' O' F' s' (t.trans s t')
  | ct ρ' => exact fun σ' H' O' F' s' t' => h σ' H' O' F' s' (t.trans s t')
  | exc c ρ' => exact fun σ' H' O' F' s' t' => h σ' H' O' F' s' (t.trans s t')
  | bad => exact h
/-- an expression's value, then a flow -/
def thenF {α : Type} (r : Res α) (ρ : Sls) (k : α → Fl) : Fl := match r with
  | .ok a => k a
  | .exc c => .exc c ρ
  | .bad => .bad
@[simp] theorem thenF_ok {α : Type} (a : α) (ρ : Sls) (k : α → Fl) : thenF (ok a) ρ k = k a := rfl
@[simp] theorem thenF_exc {α : Type} (c : Str) (ρ : Sls) (k : α → Fl) : thenF (exc c : Res α) ρ k = .exc c ρ := rfl
@[simp] theorem thenF_bad {α : Type} (ρ : Sls) (k : α → Fl) : thenF (bad : Res α) ρ k = .bad := rfl
theorem FP.po {α : Type} {r : Res α} {k : α → Fl} (s : Sta K H O σ ρ F) (h : FP K E D' H O F (thenF r ρ k)) : Po K E σ H r fun a => FP K E D' H O F (k a) := by
  cases r with
  | ok a => exact h
  | exc c => exact fun H' e => h σ H' O F (s.same e) (.same e)
  | bad => exact h
/-- after a new object at a is taken in -/
theorem Sta.add {H2 : Hp} {a : Addr} (s : Sta K H O σ ρ F) (e : Same H H2) (n : H a = none) (h1 : H2 a ≠ none) (h2 : NoTup H2 a) : Sta K H2 (Ad O a) σ ρ F :=
  ⟨(s.st.more n).same e, fun b hb => hb.elim (fun z => s.dom.same e b z) fun z => by subst z; exact ⟨h1, h2⟩⟩
theorem Tr.sub {F' : List Addr} (h : ∀ a ∈ F', a ∈ F) (e : Same H H1) : Tr H O F H1 O F' := ⟨fun a o q _ => e a o q, fun a q => .inl (h a q), fun _ q => .inl q, fun _ q => .inl q⟩
end
section
variable {X : Cx} {E : EX} {e : Expr} {f : Sls → Res D} {tf : Sls → Res Bool} {st : Stmt} {sts : List Stmt} {s1 s2 : Sls → Fl} {pos pos' : Pos}
def sNx : Sls → Fl := fun ρ => .nx ρ
def sSeq (s t : Sls → Fl) : Sls → Fl := fun ρ => match s ρ with
  | .nx ρ' => t ρ'
  | fl => fl
theorem ss_nil : SSs X E [] sNx := pss_imp pss_nil fun D σ H ⟨ρ, O, F, s, p⟩ => p σ H O F s .refl
theorem ss_pass : SS X E (.Pass pos) sNx := ps_imp ps_pass fun D σ H ⟨ρ, O, F, s, p⟩ => p σ H O F s .refl
theorem ss_cons (h1 : SS X E st s1) (h2 : SSs X E sts s2) : SSs X E (st :: sts) (sSeq s1 s2) :=
  pss_imp (pss_cons h1 h2) fun D σ H ⟨ρ, O, F, s, p⟩ => ⟨ρ, O, F, s, by
    unfold sSeq at p
    cases q : s1 ρ with
    | nx ρ' =>
      rw [q] at p
      exact fun σ' H' O' F' s' t => ⟨ρ', O', F', s', FP.later s t p⟩
    | rt d => rw [q] at p; exact p
    | bk ρ' => rw [q] at p; exact p
    | ct ρ' => rw [q] at p; exact p
    | exc c ρ' => rw [q] at p; exact p
    | bad => rw [q] at p; exact p⟩
theorem ss_one (h1 : SS X E st s1) : SSs X E [st] s1 := pss_one h1
/-- code that is never come to -/
theorem ss_never : SSs X E sts fun _ => .bad := ⟨fun _ _ _ _ _ _ ⟨_, _, _, _, p⟩ => p.elim⟩
def sBk : Sls → Fl := fun ρ => .bk ρ
def sCt : Sls → Fl := fun ρ => .ct ρ
theorem ss_break : SS X E (.Break pos) sBk := ps_imp ps_break fun D σ H ⟨ρ, O, F, s, p⟩ => p σ H O F s .refl
theorem ss_cont : SS X E (.Continue pos) sCt := ps_imp ps_continue fun D σ H ⟨ρ, O, F, s, p⟩ => p σ H O F s .refl
/-! ### stores -/
def sSet (i : Nat) (f : Sls → Res D) : Sls → Fl := fun ρ => thenF (f ρ) ρ fun d => .nx (ρ.set i (.fz d))
def sSetO (i : Nat) (f : Sls → Res D) : Sls → Fl := fun ρ => thenF (f ρ) ρ fun d => .nx (ρ.set i (.ow d))
theorem setF_reads {i : Nat} {D' : Ends} {σ : L2.St} {H : Hp} (hq : tSS X.K E (sSet i f) D' σ H) : tEF X.K E f σ H fun x H1 => gName i x σ H1 D'.nx := by
  obtain ⟨ρ, O, F, s, p⟩ := hq
  refine ⟨ρ, O, F, s, (FP.po s p).imp fun d p1 v H1 e1 r1 => ?_⟩
  obtain ⟨F', h1, h2⟩ := RSt.setF r1 i (s.same e1).st
  exact p1 _ H1 O F' ⟨h1, (s.same e1).dom⟩ (.sub h2 e1)
theorem setO_reads {i : Nat} {D' : Ends} {σ : L2.St} {H : Hp} (hq : tSS X.K E (sSetO i f) D' σ H) : tEN X.K E f σ H fun x H1 => gName i x σ H1 D'.nx := by
  obtain ⟨ρ, O, F, s, p⟩ := hq
  refine ⟨ρ, O, F, s, (FP.po s p).imp fun d p1 v a H1 e1 n r1 => ?_⟩
  have hk := r1.2.2
  have s2 := s.add e1 n hk.some hk.noTup
  have nF : a ∉ F := fun h => (s.st.owned a h).2 n
  obtain ⟨F', h1, h2⟩ := RSt.setO r1 i nF s2.st
  exact p1 _ H1 (Ad O a) F' ⟨h1, s2.dom⟩ ⟨fun b o q _ => e1 b o q, fun b hb => (h2 b hb).elim (fun z => .inr (by rw [z]; exact n)) .inl, fun b hb => .inl (.inl hb), fun b hb => hb.imp id fun z => by rw [z]; exact n⟩
theorem ss_set (i : Nat) {x : Str} (he : EF X E e f) (hN : X.N.Nodup) (hi : X.N[i]? = some x := by rfl) (hx : Loc X.env.scope x := by first | exact Or.inl rfl | exact Or.inr rfl) (hs : swapsWith e (some (.Name x pos')) pos.line X.env = pure false := by rfl)
    (hf : X.fn x = true ∨ X.env.scope.names.lookup x = some .local := by first | exact .inl rfl | exact .inr rfl | assumption) : SS X E (.Assign [.Name x pos'] e pos) (sSet i f) :=
  ps_imp (ps_set hN hi hx he hs hf) fun D σ H hq => setF_reads hq
theorem ss_setO (i : Nat) {x : Str} (he : EN X E e f) (hN : X.N.Nodup) (hi : X.N[i]? = some x := by rfl) (hx : Loc X.env.scope x := by first | exact Or.inl rfl | exact Or.inr rfl) (hs : swapsWith e (some (.Name x pos')) pos.line X.env = pure false := by rfl)
    (hf : X.fn x = true ∨ X.env.scope.names.lookup x = some .local := by first | exact .inl rfl | exact .inr rfl | assumption) : SS X E (.Assign [.Name x pos'] e pos) (sSetO i f) :=
  ps_imp (ps_set hN hi hx he hs hf) fun D σ H hq => setO_reads hq
/-- y = [..], y a plain local of this line -/
theorem ss_setLcO (i : Nat) {y : Str} {py : Pos} {elt tg iter : Expr} {ifs : List Expr} {scope : Scope} {own : List (Str × Nat)} {spos : Pos} {it : Sls → Res (List D)} {g : L2.TG} {t : TgF} {tt : Sls → Res Bool} {te : Sls → Res D} (hc : X.calm = true) (hN : X.N.Nodup) (hyl : X.env.scope.names.lookup y = some .local)
    (hsw : swapsWith (.ListComp elt [⟨tg, iter, ifs, 0⟩] scope pos) (some (.Name y py)) spos.line X.env = pure true) (hi : EI X E tg iter it) (ok' : BlkOk X.N X.env.scope scope own) (hgt : PP.TG X.K g t (own.map (·.2)))
    (hg : ∀ (s : Shared) (H : Hp) (C : Addr) (cl : List (Str × Addr)) (fp : List Addr), PG (X.blk s H scope (compEnvC scope cl C X.env) fp) tg g) (ht : ∀ (s : Shared) (H : Hp) (C : Addr) (cl : List (Str × Addr)) (fp : List Addr), ETs (X.blk s H scope (compEnvC scope cl C X.env) fp) E0' ifs tt)
    (he : ∀ (s : Shared) (H : Hp) (C : Addr) (cl : List (Str × Addr)) (fp : List Addr), EF (X.blk s H scope (compEnvC scope cl C X.env) fp) E0' elt te) (hy : X.N[i]? = some y := by rfl) (hs : ∀ x, foldedSetIterable iter X.env x = pure x := by intro _; rfl) :
    SS X E (.Assign [.Name y py] (.ListComp elt [⟨tg, iter, ifs, 0⟩] scope pos) spos) (sSetO i (mLc it (own.map (·.2)) t tt te)) :=
  ps_imp (ps_setLc (tt := tET X.K E0' tt) (te := tEF X.K E0' te) hc hN hy hyl hsw hi ok' hg ht he hs) fun D σ H hq => lc_reads hgt (setO_reads hq)
theorem en_ef {D' : Ends} {σ : L2.St} {H : Hp} {Q : VK} (h : tEF X.K E f σ H Q) : tEN X.K E f σ H Q := by
  obtain ⟨ρ, O, F, s, p⟩ := h
  exact ⟨ρ, O, F, s, p.imp fun d k v a H' e n r => k v H' e (r.frz (not_new s n))⟩
theorem ss_setLc (i : Nat) {y : Str} {py : Pos} {elt tg iter : Expr} {ifs : List Expr} {scope : Scope} {own : List (Str × Nat)} {spos : Pos} {it : Sls → Res (List D)} {g : L2.TG} {t : TgF} {tt : Sls → Res Bool} {te : Sls → Res D} (hc : X.calm = true) (hN : X.N.Nodup) (hyl : X.env.scope.names.lookup y = some .local)
    (hsw : swapsWith (.ListComp elt [⟨tg, iter, ifs, 0⟩] scope pos) (some (.Name y py)) spos.line X.env = pure true) (hi : EI X E tg iter it) (ok' : BlkOk X.N X.env.scope scope own) (hgt : PP.TG X.K g t (own.map (·.2)))
    (hg : ∀ (s : Shared) (H : Hp) (C : Addr) (cl : List (Str × Addr)) (fp : List Addr), PG (X.blk s H scope (compEnvC scope cl C X.env) fp) tg g) (ht : ∀ (s : Shared) (H : Hp) (C : Addr) (cl : List (Str × Addr)) (fp : List Addr), ETs (X.blk s H scope (compEnvC scope cl C X.env) fp) E0' ifs tt)
    (he : ∀ (s : Shared) (H : Hp) (C : Addr) (cl : List (Str × Addr)) (fp : List Addr), EF (X.blk s H scope (compEnvC scope cl C X.env) fp) E0' elt te) (hy : X.N[i]? = some y := by rfl) (hs : ∀ x, foldedSetIterable iter X.env x = pure x := by intro _; rfl) :
    SS X E (.Assign [.Name y py] (.ListComp elt [⟨tg, iter, ifs, 0⟩] scope pos) spos) (sSet i (mLc it (own.map (·.2)) t tt te)) :=
  ps_imp (ps_setLc (tt := tET X.K E0' tt) (te := tEF X.K E0' te) hc hN hy hyl hsw hi ok' hg ht he hs) fun D σ H hq => lc_reads hgt (en_ef (D' := D) (setF_reads hq))
/-- target = value -/
def sAsg (t : TgF) (f : Sls → Res D) : Sls → Fl := fun ρ => thenF (f ρ >>= fun d => (t d ρ).quiet) ρ fun ρ' => .nx ρ'
theorem ss_asg {tg : Expr} {g : L2.TG} {t : TgF} {vs : List Nat} (he : EF X E e f) (hg : PG X tg g) (hgt : PP.TG X.K g t vs) (hs : swapsWithSole [tg] e pos.line X.env = pure false := by rfl) (hw : swappedStores [tg] e X.env = pure none := by rfl)
    (h1 : (assignEach [tg] X.env).map (·.2) = [assign tg X.env] := by rfl) : SS X E (.Assign [tg] e pos) (sAsg t f) :=
  ps_imp (ps_asg he hg hs hw h1) fun D σ H ⟨ρ, O, F, s, p⟩ => ⟨ρ, O, F, s, (FP.po s p).bind.imp fun d p1 v H1 e1 r1 => hgt.run H1 O v d σ ρ F _ (s.same e1) r1 (by
    cases q : t d ρ with
    | ok ρ' => rw [q] at p1; exact fun σ' F' s' sub => p1 σ' H1 O F' s' (.sub sub e1)
    | exc c => rw [q] at p1; exact p1.elim
    | bad => rw [q] at p1; exact p1.elim)⟩

/-- a, b = x, y, plain locals -/
def sPar (i j : Nat) (f g : Sls → Res D) : Sls → Fl := fun ρ => thenF (f ρ) ρ fun x => thenF (g ρ) ρ fun y => .nx ((ρ.set i (.fz x)).set j (.fz y))
theorem ss_par (i j : Nat) {x y : Str} {a b : Expr} {g : Sls → Res D} {px py pt : Pos} {kt k2 pt2} (ha : EF X E a f) (hb : EF X E b g) (hc : X.calm = true) (hN : X.N.Nodup) (hi : X.N[i]? = some x := by rfl) (hj : X.N[j]? = some y := by rfl) (hij : i ≠ j := by decide)
    (hx : X.env.scope.names.lookup x = some .local := by rfl) (hy : X.env.scope.names.lookup y = some .local := by rfl)
    (hw : swappedStores [.Tuple [.Name x px, .Name y py] kt pt] (.Tuple [a, b] k2 pt2) X.env = pure (some [x, y]) := by rfl)
    (hs : swapsWithSole [.Tuple [.Name x px, .Name y py] kt pt] (.Tuple [a, b] k2 pt2) pos.line X.env = pure false := by rfl) (h1 : starEach [a, b] X.env = (false, eval a X.env) :: starEach [b] X.env := by rfl) (h2 : starEach [b] X.env = (false, eval b X.env) :: starEach [] X.env := by rfl) :
    SS X E (.Assign [.Tuple [.Name x px, .Name y py] kt pt] (.Tuple [a, b] k2 pt2) pos) (sPar i j f g) :=
  ps_imp (ps_par hc hN hi hj hij hx hy (pa_cons ha (pa_cons hb pa_nil h2) h1) hw hs) fun D σ H ⟨ρ, O, F, s, p⟩ => ⟨ρ, O, F, s, (FP.po s p).imp fun dx p1 v H1 e1 r1 =>
    ⟨ρ, O, F, s.same e1, ((FP.po s p1).imp fun dy p2 u H2 e2 r2 => by
      have e12 := e1.trans e2
      obtain ⟨F1, g1, g2⟩ := RSt.setF (r1.same e2) i (s.same e12).st
      obtain ⟨F2, g3, g4⟩ := RSt.setF r2 j g1
      exact ⟨v, u, rfl, p2 _ H2 O F2 ⟨g3, (s.same e12).dom⟩ (.sub (fun a h => g2 a (g4 a h)) e12)⟩).later e1⟩⟩
def sRet (f : Sls → Res D) : Sls → Fl := fun ρ => thenF (f ρ) ρ .rt
theorem ss_ret (he : EF X E e f) : SS X E (.Return (some e) pos) (sRet f) :=
  ps_imp (ps_ret he) fun D σ H ⟨ρ, O, F, s, p⟩ => ⟨ρ, O, F, s, (FP.po s p).imp fun d p1 v H1 e1 r1 => p1 v H1 O F r1 (.same e1)⟩
theorem ss_retN : SS X E (.Return none pos) (fun _ => .rt .non) :=
  ps_imp ps_retN fun D σ H ⟨ρ, O, F, s, p⟩ => p .non H O F .non .refl
def sIf (c : Sls → Res Bool) (s t : Sls → Fl) : Sls → Fl := fun ρ => thenF (c ρ) ρ fun b => if b then s ρ else t ρ
theorem ss_if {c : Expr} {a b : List Stmt} (hc : ET X E c tf) (ha : SSs X E a s1) (hb : SSs X E b s2) : SS X E (.If c a b pos) (sIf tf s1 s2) :=
  ps_imp (ps_if hc ha hb) fun D σ H ⟨ρ, O, F, s, p⟩ => ⟨ρ, O, F, s, (FP.po s p).imp fun b p1 H1 e1 => by
    cases b with
    | true => exact iteT ⟨ρ, O, F, s.same e1, FP.later s (.same e1) p1⟩
    | false => exact iteF ⟨ρ, O, F, s.same e1, FP.later s (.same e1) p1⟩⟩
def sDrop (f : Sls → Res D) : Sls → Fl := fun ρ => thenF (f ρ) ρ fun _ => .nx ρ
theorem ss_expr (he : EF X E e f) (hs : swapsWith e none pos.line X.env = pure false := by rfl) : SS X E (.Expr e pos) (sDrop f) :=
  ps_imp (ps_expr he hs) fun D σ H ⟨ρ, O, F, s, p⟩ => ⟨ρ, O, F, s, (FP.po s p).imp fun d p1 v H1 e1 r1 => p1 σ H1 O F (s.same e1) (.same e1)⟩
/-- raise C('..') -/
def sRaise (c : Str) : Sls → Fl := fun ρ => .exc c ρ
theorem ss_raise {c : Str} {W : WX} {ex : Expr} (hc : X.calm = true) (tk : Takes X W) (he : PMk X ex fun _ H Q => Q (.ref (He.ga X.K c)) none H) (hE : ∀ σ cls d H, E σ cls d H → W cls d σ H) : SS X E (.Raise (some ex) none pos) (sRaise c) :=
  ps_imp (ps_raise hc tk he) fun D σ H ⟨ρ, O, F, s, p⟩ => hE _ _ _ _ (p σ H O F s .refl)
/-- a slot's value is not changed any more -/
def frzAt (i : Nat) (ρ : Sls) : Sls := match ρ[i]? with
  | some (.ow d) => ρ.set i (.fz d)
  | _ => ρ
theorem Sta.frz {K : PySem.W.Frag} {H : Hp} {O : Addr → Prop} {σ : L2.St} {ρ : Sls} {F : List Addr} (s : Sta K H O σ ρ F) (i : Nat) : ∃ O' F', Sta K H O' σ (frzAt i ρ) F' ∧ Tr H O F H O' F' := by
  unfold frzAt
  split
  · rename_i d e
    obtain ⟨a, e1, hF, hO, hk⟩ := s.st.getO e
    obtain ⟨O', F', h1, h2, h3, h4⟩ := s.st.freeze' e
    exact ⟨O', F', ⟨h2, fun b hb => s.dom b (h1 b hb)⟩, ⟨fun _ _ q _ => q, fun b hb => .inl (h3 b hb), h4, fun b hb => .inl (h1 b hb)⟩⟩
  · exact ⟨O, F, s, .refl⟩
theorem ss_frz (i : Nat) (h : SS X E st s1) : SS X E st fun ρ => s1 (frzAt i ρ) :=
  ps_imp h fun D σ H ⟨ρ, O, F, s, p⟩ => by
    obtain ⟨O', F', s', t⟩ := s.frz i
    exact ⟨_, O', F', s', FP.later s t p⟩
/-! ### loops -/
def forL (step : D → Sls → Fl) : List D → Sls → Fl
  | [], ρ => .nx ρ
  | x :: xs, ρ => match step x ρ with
    | .nx ρ' => forL step xs ρ'
    | .ct ρ' => forL step xs ρ'
    | .bk ρ' => .nx ρ'
    | .rt d => .rt d
    | .exc c ρ' => .exc c ρ'
    | .bad => .bad
def sFor (it : Sls → Res (List D)) (t : TgF) (body : Sls → Fl) : Sls → Fl := fun ρ => thenF (it ρ) ρ fun xs => forL (fun x ρ => thenF (t x ρ).quiet ρ body) xs ρ
theorem ss_for {tg iter : Expr} {body : List Stmt} {it : Sls → Res (List D)} {g : L2.TG} {t : TgF} {vs : List Nat} (hp : PassesOwn (model X.prog X.w) X.A X.env X.xe) (hc : X.calm = true) (hi : EI X E tg iter it) (hg : PG X tg g) (hgt : PP.TG X.K g t vs) (hb : SSs X E body s1)
    (hs : ∀ x, foldedSetIterable iter X.env x = pure x := by intro _; rfl) : SS X E (.For tg iter body [] pos) (sFor it t s1) :=
  ps_imp (ps_for hp hc hi hg hb hs) fun D σ H ⟨ρ, O, F, s, p⟩ => ⟨ρ, O, F, s, (FP.po s p).imp fun xs p1 J H1 e1 hz hw => by
    refine ⟨fun i m σ2 H2 => m + i = xs.length ∧ ∃ ρ2 O2 F2, Sta X.K H2 O2 σ2 ρ2 F2 ∧ Tr H1 O F H2 O2 F2 ∧ FP X.K E D H2 O2 F2 (forL (fun x ρ => thenF (t x ρ).quiet ρ s1) (xs.drop i) ρ2), ⟨xs.length, by omega, ρ, O, F, s.same e1, .refl, FP.later s (.same e1) (by simpa using p1)⟩, ?_⟩
    rintro i m σ2 H2 ⟨hm, ρ2, O2, F2, s2, t2, p2⟩
    obtain ⟨w1, w2⟩ := hw H2 O2 (t2.later (s.same e1)) i
    by_cases hi : i < xs.length
    · have hdrop : xs.drop i = xs[i] :: xs.drop (i + 1) := List.drop_eq_getElem_cons hi
      rw [hdrop] at p2
      obtain ⟨go, yl⟩ := w1 xs[i] (List.getElem?_eq_getElem hi)
      refine .inr ⟨go, fun σ3 H3 => ∃ ρ3 O3 F3, Sta X.K H3 O3 σ3 ρ3 F3 ∧ Tr H1 O F H3 O3 F3 ∧ FP X.K E D H3 O3 F3 (forL (fun x ρ => thenF (t x ρ).quiet ρ s1) (xs.drop (i + 1)) ρ3), fun σ3 H3 q => ⟨m - 1, by omega, by omega, q⟩, fun x H3 hy => ?_⟩
      obtain ⟨e3, rx⟩ := yl x H3 hy
      have s3 := s2.same e3
      refine hgt.run H3 O2 x xs[i] σ2 ρ2 F2 _ s3 rx ?_
      have p3 : FP X.K E D H2 O2 F2 (match thenF (t xs[i] ρ2).quiet ρ2 s1 with
        | .nx ρ' => forL (fun x ρ => thenF (t x ρ).quiet ρ s1) (xs.drop (i + 1)) ρ'
        | .ct ρ' => forL (fun x ρ => thenF (t x ρ).quiet ρ s1) (xs.drop (i + 1)) ρ'
        | .bk ρ' => .nx ρ'
        | .rt d => .rt d
        | .exc c ρ' => .exc c ρ'
        | .bad => .bad) := p2
      cases q : t xs[i] ρ2 with
      | exc c => rw [q] at p3; exact p3.elim
      | bad => rw [q] at p3; exact p3.elim
      | ok ρ4 =>
        rw [q] at p3
        intro σ4 F4 s4 sub
        have t24 : Tr H2 O2 F2 H3 O2 F4 := .sub sub e3
        refine ⟨ρ4, O2, F4, s4, ?_⟩
        have p4 : FP X.K E D H3 O2 F4 (match s1 ρ4 with
          | .nx ρ' => forL (fun x ρ => thenF (t x ρ).quiet ρ s1) (xs.drop (i + 1)) ρ'
          | .ct ρ' => forL (fun x ρ => thenF (t x ρ).quiet ρ s1) (xs.drop (i + 1)) ρ'
          | .bk ρ' => .nx ρ'
          | .rt d => .rt d
          | .exc c ρ' => .exc c ρ'
          | .bad => .bad) := FP.later s2 t24 p3
        have t14 := t2.trans (s.same e1) t24
        cases q5 : s1 ρ4 with
        | nx ρ5 => rw [q5] at p4; exact fun σ5 H5 O5 F5 s5 t5 => ⟨ρ5, O5, F5, s5, t14.trans (s.same e1) t5, FP.later s4 t5 p4⟩
        | ct ρ5 => rw [q5] at p4; exact fun σ5 H5 O5 F5 s5 t5 => ⟨ρ5, O5, F5, s5, t14.trans (s.same e1) t5, FP.later s4 t5 p4⟩
        | bk ρ5 => rw [q5] at p4; exact p4
        | rt d => rw [q5] at p4; exact p4
        | exc c ρ5 => rw [q5] at p4; exact p4
        | bad => rw [q5] at p4; exact p4
    · rw [List.drop_eq_nil_of_le (by omega)] at p2
      exact .inl ⟨w2 (by omega), p2 σ2 H2 O2 F2 s2 .refl⟩⟩
def whileN (c : Sls → Res Bool) (body : Sls → Fl) : Nat → Sls → Fl
  | 0, _ => .bad
  | n + 1, ρ => thenF (c ρ) ρ fun b => if b then (match body ρ with
    | .nx ρ' => whileN c body n ρ'
    | .ct ρ' => whileN c body n ρ'
    | .bk ρ' => .nx ρ'
    | .rt d => .rt d
    | .exc e ρ' => .exc e ρ'
    | .bad => .bad) else .nx ρ
theorem ss_while (n : Nat) {c : Expr} {body : List Stmt} (hp : PassesOwn (model X.prog X.w) X.A X.env X.xe) (hc : ET X E c tf) (hb : SSs X E body s1) : SS X E (.While c body [] pos) (whileN tf s1 n) :=
  ps_imp (ps_while hp hc hb) fun D σ H ⟨ρ, O, F, s, p⟩ => by
    refine ⟨fun m σ2 H2 => ∃ ρ2 O2 F2, Sta X.K H2 O2 σ2 ρ2 F2 ∧ FP X.K E D H2 O2 F2 (whileN tf s1 m ρ2), ⟨n, ρ, O, F, s, p⟩, ?_⟩
    rintro m σ2 H2 ⟨ρ2, O2, F2, s2, p2⟩
    cases m with
    | zero => exact p2.elim
    | succ m =>
      refine ⟨ρ2, O2, F2, s2, (FP.po s2 p2).imp fun b p3 H3 e3 => ?_⟩
      cases b with
      | false => exact iteF (p3 σ2 H3 O2 F2 (s2.same e3) (.same e3))
      | true =>
        refine iteT ⟨fun σ4 H4 => ∃ ρ4 O4 F4, Sta X.K H4 O4 σ4 ρ4 F4 ∧ FP X.K E D H4 O4 F4 (whileN tf s1 m ρ4), fun σ4 H4 q => ⟨m, Nat.lt_succ_self m, q⟩, ρ2, O2, F2, s2.same e3, ?_⟩
        have s3 := s2.same e3
        have p4 : FP X.K E D H3 O2 F2 (match s1 ρ2 with
          | .nx ρ' => whileN tf s1 m ρ'
          | .ct ρ' => whileN tf s1 m ρ'
          | .bk ρ' => .nx ρ'
          | .rt d => .rt d
          | .exc e ρ' => .exc e ρ'
          | .bad => .bad) := FP.later s2 (.same e3) p3
        cases q5 : s1 ρ2 with
        | nx ρ5 => rw [q5] at p4; exact fun σ5 H5 O5 F5 s5 t5 => ⟨ρ5, O5, F5, s5, FP.later s3 t5 p4⟩
        | ct ρ5 => rw [q5] at p4; exact fun σ5 H5 O5 F5 s5 t5 => ⟨ρ5, O5, F5, s5, FP.later s3 t5 p4⟩
        | bk ρ5 => rw [q5] at p4; exact p4
        | rt d => rw [q5] at p4; exact p4
        | exc c ρ5 => rw [q5] at p4; exact p4
        | bad => rw [q5] at p4; exact p4
/-! ### xs.append(e) -/
def sApp (i : Nat) (f : Sls → Res D) : Sls → Fl := fun ρ => match ρ[i]? with
  | some (.ow (.lst ds)) => thenF (f ρ) ρ fun d => if ds.length < sizeLine then .nx (ρ.set i (.ow (.lst (ds ++ [d])))) else .bad
  | _ => .bad
theorem app_reads {i : Nat} {D' : Ends} {σ : L2.St} {H : Hp} {Kf : PySem.W.Frag} (hq : tSS Kf E (sApp i f) D' σ H) :
    tDrop (tBM Kf "list" rAppend (tVar i) (tCons (tEF Kf E f) tNil)) D' σ H := by
  obtain ⟨ρ, O, F, s, p⟩ := hq
  unfold sApp at p
  split at p
  · rename_i ds e
    obtain ⟨a, e1, hF, hO, vs, e2, z, r⟩ := s.st.getO e
    refine ⟨_, e1, .inl ⟨rfl, vs, .of e2⟩, ρ, O, F, s, (FP.po s p).imp fun d p1 v H1 eH r1 => ?_⟩
    have s1 := s.same eH
    have e3 := eH _ _ e2
    by_cases hl : ds.length < sizeLine
    · rw [if_pos hl] at p1
      refine ⟨a, vs, v, rfl, rfl, e3, by rw [r.length]; exact hl, ?_⟩
      have hk : RepK Kf (upd H1 a (.lst (vs ++ [v]))) O a (.lst (ds ++ [d])) := ⟨_, upd_same, by simp; rw [r.length]; exact hl, ((r.same eH).snoc r1).upd hO (noTup_lst e3)⟩
      have st2 := RSt.updAt hO (noTup_lst e3) hk e e1 s1.st
      refine p1 _ _ O F ⟨st2, fun b hb => ?_⟩ ⟨fun b o q n => ?_, fun b hb => .inl hb, fun b hb => .inl hb, fun b hb => .inl hb⟩
      · by_cases hba : b = a
        · subst hba; exact ⟨by rw [upd_same]; exact fun z => (nomatch z), noTup_lst upd_same⟩
        · obtain ⟨d1, d2⟩ := s1.dom b hb
          exact ⟨by rw [upd_ne hba]; exact d1, fun xs q => d2 xs (by rcases q with q | ⟨o, q⟩ <;> rw [upd_ne hba] at q; exact .inl q; exact .inr ⟨o, q⟩)⟩
      · rw [upd_ne (fun z => n (by rw [z]; exact hF))]
        exact eH _ _ q
    · rw [if_neg hl] at p1
      exact p1.elim
  · exact p.elim
theorem ss_app (i : Nat) {x : Str} {px apos cpos spos : Pos} (he : EF X E e f) (hN : X.N[i]? = some x := by rfl) (hv : Vis X.env.scope x := by first | exact Or.inl rfl | exact Or.inr (Or.inl rfl) | exact Or.inr (Or.inr rfl)) (hd : (x == ("__debug__" : Str)) = false := by decide)
    (hcd : (x == ("__classdict__" : Str)) = false := by decide)
    (hbase : attributeBase (.Name x px) "append" X.env (eval (.Name x px) X.env) = eval (.Name x px) X.env := by rfl)
    (hfew : ((backTo cpos (starEach [e] X.env)).all (fun x => !x.1) && (backToKw cpos (keywordEach [] X.env)).all (fun x => x.1.isSome)
      && decide (([e] : List Expr).length + ([] : List Keyword).length + (if ([] : List Keyword).isEmpty then 0 else 1) < 30)) = true := by rfl)
    (hline : (apos.endLine == cpos.line) = true := by rfl) (hs : starEach [e] X.env = (false, eval e X.env) :: starEach [] X.env := by rfl) (hplain : (backTo cpos (starEach [] X.env)).any (·.1) = false := by rfl)
    (hsw : swapsWith (.Call (.Attribute (.Name x px) "append" apos) [e] [] cpos) none spos.line X.env = pure false := by rfl) :
    SS X E (.Expr (.Call (.Attribute (.Name x px) "append" apos) [e] [] cpos) spos) (sApp i f) :=
  ps_imp (ps_expr (pe_bm PySem.F.plainAttrs_list PySem.F.slot_list_append PySem.F.type_list_append mt_append (pe_var hN hv hd hcd) (pa_cons he pa_nil hs) hbase hfew hline hs hplain) hsw) fun D σ H hq => app_reads hq

/-! ### defs -/
def startS (n : Nat) (ds : List D) : Sls := ds.map .fz ++ List.replicate (n - ds.length) .no
/-- a def with n slots and k parameters, its body s -/
def runF (n k : Nat) (s : Sls → Fl) : List D → Res D := fun ds => if ds.length = k then (match s (startS n ds) with
  | .rt d => ok d
  | .nx _ => ok .non
  | .exc c _ => exc c
  | _ => bad) else bad
end
section
variable {P : Program} {w : World} {K : PySem.W.Frag} {mg : Str → Option Value} {base : Heap}
theorem start_sta {H : Hp} {Z : Addr → Prop} {N : List Str} {vs : List V} {ds : List D} (r : Reps K H Z vs ds) (d : Dom H Z) : Sta K H Z (L2.start N vs) (startS N.length ds) [] := by
  refine ⟨?_, d⟩
  unfold L2.start startS
  rw [r.length]
  have nos : ∀ n : Nat, RSt K H Z (List.replicate n none) (List.replicate n Sl.no) [] := fun n => by
    induction n with
    | zero => exact .nil
    | succ n ih => exact .no ih
  have go : ∀ {vs : List V} {ds : List D}, Reps K H Z vs ds → RSt K H Z (vs.map some ++ List.replicate (N.length - 0) none) (ds.map Sl.fz ++ List.replicate (N.length - 0) Sl.no) [] → True := fun _ _ => trivial
  have all : ∀ {vs : List V} {ds : List D} {σ : L2.St} {ρ : Sls}, Reps K H Z vs ds → RSt K H Z σ ρ [] → RSt K H Z (vs.map some ++ σ) (ds.map Sl.fz ++ ρ) [] := by
    intro vs
    induction vs with
    | nil => intro ds σ ρ r t; cases r; exact t
    | cons v vs ih =>
      intro ds σ ρ r t
      cases r with
      | cons r rs => exact .fz r (ih rs t)
  exact all r (nos _)
/-- where nothing is owned at the entry -/
theorem Tr.entry {H H' : Hp} {O O' : Addr → Prop} {F' : List Addr} (t : Tr H O [] H' O' F') : Same H H' := fun a o h => t.keep a o h (by simp)
theorem fn_F {x qual : Str} {st : Stmt} {f : Addr} {fd : FuncData} {N ps : List Str} {k : Nat} {body : Sls → Fl} (Fu : Fun K x qual st f fd) (S : FnScope N ps (defScope st))
    (hb : ∀ (cdv : Value) (A : Around) (outer : List Env) (s : Shared) (H : Hp) (E : XK), Room k (A.deeper (envOfC qual (defScope st) s.heap.objs.size f cdv)) →
      SSs (cxOf (L2.CX P w) P w K mg base N qual (defScope st) f cdv A outer s H E) (fun _ => E) (defBody st) body) :
    FnOk P w K mg base (L2.CX P w) (k + 1) f fd ps (spF K (runF N.length ps.length body)) := by
  refine Fu.okX S (fun vs H Q E h => ?_) (fun cdv A outer s H vs Q E hr h => ⟨_, hb cdv A outer s H E hr, ?_⟩)
  · obtain ⟨ds, Z, r, d, h⟩ := h
    by_cases e : ds.length = ps.length
    · rw [r.length]; exact e
    · unfold runF at h; rw [if_neg e] at h; exact h.elim
  · obtain ⟨ds, Z, r, d, h⟩ := h
    have e : ds.length = ps.length := by
      by_cases e : ds.length = ps.length
      · exact e
      · unfold runF at h; rw [if_neg e] at h; exact h.elim
    unfold runF at h
    rw [if_pos e] at h
    refine ⟨startS N.length ds, Z, [], start_sta r d, ?_⟩
    have fin : ∀ {v : V} {x : D} {H' : Hp} {O' : Addr → Prop} {F' : List Addr}, Rep K H' O' v x → Tr H Z [] H' O' F' → Rep K H' Z v x := fun r t => r.less fun a ha => (t.own a ha).elim id fun z => by simp at z
    cases q : body (startS N.length ds) with
    | nx ρ' => rw [q] at h; exact fun σ' H' O' F' s' t => h .non H' t.entry .non
    | rt x => rw [q] at h; exact fun v H' O' F' r t => h v H' t.entry (fin r t)
    | exc c ρ' => rw [q] at h; exact fun σ' H' O' F' s' t => h H' t.entry
    | bk ρ' => rw [q] at h; exact h.elim
    | ct ρ' => rw [q] at h; exact h.elim
    | bad => rw [q] at h; exact h.elim
end
end PP

namespace PP
open PySem PySem.Spec PyProof.Rows L2
open Res (ok exc bad)
def putG (f : Str) (v : D) : List (Str × D) → List (Str × D)
  | [] => [(f, v)]
  | (g, w) :: r => if g = f then (g, v) :: r else (g, w) :: putG f v r
section
variable {K : PySem.W.Frag} {H : Hp} {O : Addr → Prop}
theorem RepFs.put {fn : Str} {v : V} {d : D} (r : Rep K H O v d) : ∀ {fs gs}, RepFs K H O fs gs → RepFs K H O (putF fn v fs) (putG fn d gs)
  | _, _, .nil => by unfold putF putG; exact .cons r .nil
  | _, _, .cons (x := y) q t => by
    unfold putF putG
    by_cases e : y = fn
    · rw [if_pos e, if_pos e]
      exact .cons r t
    · rw [if_neg e, if_neg e]
      exact .cons q (RepFs.put r t)
theorem RepFs.length : ∀ {fs gs}, RepFs K H O fs gs → fs.length = gs.length
  | _, _, .nil => rfl
  | _, _, .cons _ t => congrArg (· + 1) t.length
end
section
variable {X : Cx} {E : EX} {e : Expr} {f : Sls → Res D} {pos pos' : Pos}
/-- self.f = e, self in slot i -/
def sFldS (i : Nat) (c fn : Str) (f : Sls → Res D) : Sls → Fl := fun ρ => match ρ[i]? with
  | some (.me a (.obj c' gs)) => if c' = c ∧ gs.length < 900 then thenF (f ρ) ρ fun d => .nx (ρ.set i (.me a (.obj c' (putG fn d gs)))) else .bad
  | _ => .bad
theorem ss_fld (i : Nat) {c fn x : Str} {px : Pos} (hk : FldOk X.K fn c) (he : EF X E e f) (hN : X.N[i]? = some x := by rfl) (hv : Vis X.env.scope x := by first | exact Or.inl rfl | exact Or.inr (Or.inl rfl) | exact Or.inr (Or.inr rfl)) (hd : (x == ("__debug__" : Str)) = false := by decide)
    (hcd : (x == ("__classdict__" : Str)) = false := by decide) (hs : swapsWith e (some (.Attribute (.Name x px) fn pos')) pos.line X.env = pure false := by rfl) :
    SS X E (.Assign [.Attribute (.Name x px) fn pos'] e pos) (sFldS i c fn f) :=
  ps_imp (ps_fld (pe_var hN hv hd hcd) he hs) fun D σ H ⟨ρ, O, F, s, p⟩ => by
    unfold sFldS at p
    split at p
    · rename_i a c' gs eρ
      by_cases hc : c' = c ∧ gs.length < 900
      · rw [if_pos hc] at p
        obtain ⟨rfl, hl⟩ := hc
        refine ⟨ρ, O, F, s, (FP.po s p).imp fun d p1 v H1 e1 r1 => ?_⟩
        have s1 := s.same e1
        obtain ⟨g1, g2, g3, dx, fs, g4, g5⟩ := s1.st.getM eρ
        refine ⟨_, g1, a, _, dx, fs, rfl, g4, hk.1, hk.2, by rw [g5.length]; omega, ?_⟩
        have nt : NoTup H1 a := fun ys r => by rcases r with r | ⟨o, r⟩ <;> (rw [g4] at r; cases r)
        have hk2 : RepK X.K (upd H1 a (.ins (He.ga X.K c') dx (putF fn v fs))) O a (.obj c' (putG fn d gs)) := ⟨dx, _, upd_same, (RepFs.put r1 g5).upd g3 nt⟩
        have st2 := RSt.updMe g3 nt hk2 eρ s1.st
        refine p1 _ _ O F ⟨st2, fun b hb => ?_⟩ ⟨fun b o q n => ?_, fun b hb => .inl hb, fun b hb => .inl hb, fun b hb => .inl hb⟩
        · by_cases hba : b = a
          · subst hba; exact ⟨by rw [upd_same]; exact fun z => (nomatch z), hk2.noTup⟩
          · obtain ⟨d1, d2⟩ := s1.dom b hb
            exact ⟨by rw [upd_ne hba]; exact d1, fun xs q => d2 xs (by rcases q with q | ⟨o, q⟩ <;> rw [upd_ne hba] at q; exact .inl q; exact .inr ⟨o, q⟩)⟩
        · rw [upd_ne (fun z => n (by rw [z]; exact g2))]
          exact e1 _ _ q
      · rw [if_neg hc] at p
        exact p.elim
    · exact p.elim
/-! ### __init__ -/
/-- C.__init__(self, ..) of a new instance: it becomes the object f tells -/
def spI (K : PySem.W.Frag) (c : Str) (f : Addr → List D → Res D) : Sp := fun vs H Q E => ∃ a dx us ds Z, vs = .ref a :: us ∧ H a = some (.ins (He.ga K c) dx []) ∧ Z a ∧ Reps K H Z us ds ∧ Dom H Z ∧ (match f a ds with
  | .ok d => ∀ H', (∀ b o, b ≠ a → H b = some o → H' b = some o) → RepK K H' Z a d → Q .non H'
  | .exc x => ∀ H', (∀ b o, b ≠ a → H b = some o → H' b = some o) → E (.ref (He.ga K x)) none H'
  | .bad => False)
def meAt (a : Addr) : Option Sl → Res D
  | some (.me b d) => if b = a then ok d else bad
  | _ => bad
def runI (n k : Nat) (c : Str) (s : Sls → Fl) (a : Addr) (ds : List D) : Res D := if ds.length = k then (match s (.me a (.obj c []) :: startS (n - 1) ds) with
  | .nx ρ' => meAt a ρ'[0]?
  | .exc x _ => exc x
  | _ => bad) else bad
variable {CX : CXT} {n : Nat} {fa : Addr} {fd : FuncData} {ps : List Str} {x : Str} {p : Pos} {F : List D → Res D} {fi : Addr → List D → Res D} {es : List Expr} {fs : List (Sls → Res D)} {c : Str}
def mMake (F : List D → Res D) (fs : List (Sls → Res D)) : Sls → Res D := fun ρ => mArgs fs ρ >>= fun ds => (F ds).quiet
theorem ef_make (M : Mk X.K (He.ga X.K x) fa) (G : FnOk X.prog X.w X.K X.mg X.base (L2.CX X.prog X.w) n fa fd ps (spI X.K x fi)) (hF : ∀ a ds d, F ds = ok d → fi a ds = ok d) (hr : Room (n + 1) X.A) (hm : X.mg x = some (.ref (He.ga X.K x))) (hb : Binds X.K fd ps [])
    (ha : EA X E (e :: es) (mArgs fs)) (hg : Gl X x := by rfl) (hdb : (x == ("__debug__" : Str)) = false := by decide) (he : starEach (e :: es) X.env = (false, eval e X.env) :: starEach es X.env := by rfl) (hpl : (backTo pos (starEach es X.env)).any (·.1) = false := by rfl) :
    EF X E (.Call (.Name x p) (e :: es) [] pos) (mMake F fs) :=
  pe_imp (pe_make M G hr hg hm hb .nil passL ha hdb he hpl) fun σ H Q ⟨ρ, O, FF, s, p⟩ => ⟨ρ, O, FF, s, p.bind.imp fun ds p1 vs H1 e1 r1 y dx ny ndx nyx => by
    cases q : F ds with
    | ok d =>
      rw [q] at p1
      have s1 := s.same e1
      have nO : ¬ O y := fun h => (s1.dom y h).1 ny
      have sm : Same H1 (upd (upd H1 dx (.own y)) y (.ins (He.ga X.K x) dx [])) := (same_new ndx).trans (same_new (by rw [upd_ne (Ne.symm nyx)]; exact ny))
      refine ⟨y, dx, vs ++ [], ds, Ad O y, rfl, upd_same, .inr rfl, ?_, fun b hb => ?_, ?_⟩
      · rw [List.append_nil]; exact (r1.more ny).same sm
      · rcases hb with hb | hb
        · exact (s1.dom.same sm) b hb
        · subst hb; exact ⟨by rw [upd_same]; exact fun z => (nomatch z), fun ys r => by rcases r with r | ⟨o, r⟩ <;> (rw [upd_same] at r; cases r)⟩
      · rw [hF y ds d q]
        refine fun H' k rk => ⟨rfl, p1 _ H' (fun b o h => ?_) (rk.freeze nO fun _ z => .inl z)⟩
        have hby : b ≠ y := fun z => by subst z; rw [e1 b o h] at ny; cases ny
        exact k b o hby (sm b o (e1 b o h))
    | exc c => rw [q] at p1; exact p1.elim
    | bad => rw [q] at p1; exact p1.elim⟩
end
section
variable {P : Program} {w : World} {K : PySem.W.Frag} {mg : Str → Option Value} {base : Heap}
theorem fn_I {c x qual : Str} {st : Stmt} {f : Addr} {fd : FuncData} {N ps : List Str} {k n : Nat} {p0 : Str} {body : Sls → Fl} (Fu : Fun K x qual st f fd) (S : FnScope N (p0 :: ps) (defScope st)) (hn : N.length = n + 1)
    (hb : ∀ (cdv : Value) (A : Around) (outer : List Env) (s : Shared) (H : Hp) (E : XK), Room k (A.deeper (envOfC qual (defScope st) s.heap.objs.size f cdv)) →
      SSs (cxOf (L2.CX P w) P w K mg base N qual (defScope st) f cdv A outer s H E) (fun _ => E) (defBody st) body) :
    FnOk P w K mg base (L2.CX P w) (k + 1) f fd (p0 :: ps) (spI K c (runI (n + 1) ps.length c body)) := by
  refine Fu.okX S (fun vs H Q E h => ?_) (fun cdv A outer s H vs Q E hr h => ⟨_, hb cdv A outer s H E hr, ?_⟩)
  · obtain ⟨a, dx, us, ds, Z, rfl, ha, hz, r, d, h⟩ := h
    by_cases e : ds.length = ps.length
    · simp [r.length, e]
    · unfold runI at h; rw [if_neg e] at h; exact h.elim
  · obtain ⟨a, dx, us, ds, Z, rfl, ha, hz, r, d, h⟩ := h
    have e : ds.length = ps.length := by
      by_cases e : ds.length = ps.length
      · exact e
      · unfold runI at h; rw [if_neg e] at h; exact h.elim
    unfold runI at h
    rw [if_pos e] at h
    have e0 : L2.start N (.ref a :: us) = some (.ref a) :: L2.start (N.drop 1) us := by
      unfold L2.start
      simp only [List.map_cons, List.length_cons, List.cons_append, List.length_drop]
      congr 3
      omega
    have st1 := (start_sta (N := N.drop 1) r d).st
    have el : (N.drop 1).length = n := by simp [hn]
    rw [el] at st1
    have s0 : Sta K H Z (L2.start N (.ref a :: us)) (.me a (.obj c []) :: startS (n + 1 - 1) ds) [a] := ⟨by rw [e0]; exact .me ⟨rfl, hz, dx, [], ha, .nil⟩ (by simp) st1, d⟩
    refine ⟨_, Z, [a], s0, ?_⟩
    have keep : ∀ {H' : Hp} {O' : Addr → Prop} {F' : List Addr}, Tr H Z [a] H' O' F' → ∀ b o, b ≠ a → H b = some o → H' b = some o := fun t b o hb hq => t.keep b o hq (by simpa using hb)
    cases q : body (.me a (.obj c []) :: startS (n + 1 - 1) ds) with
    | nx ρ' =>
      rw [q] at h
      intro σ' H' O' F' s' t
      have h' : (match meAt a ρ'[0]? with
        | .ok d => ∀ H', (∀ b o, b ≠ a → H b = some o → H' b = some o) → RepK K H' Z a d → Q .non H'
        | .exc x => ∀ H', (∀ b o, b ≠ a → H b = some o → H' b = some o) → E (.ref (He.ga K x)) none H'
        | .bad => False) := h
      unfold meAt at h'
      split at h'
      · rename_i d0 e1
        split at e1
        · rename_i b d1 e2
          by_cases hb : b = a
          · rw [if_pos hb] at e1
            cases e1
            subst hb
            obtain ⟨_, _, o2, k2⟩ := s'.st.getM e2
            exact h' H' (keep t) (k2.less fun y hy => (t.own y hy).elim id fun z => by
              have : y = b := by simpa using z
              subst this; exact o2)
          · rw [if_neg hb] at e1; cases e1
        · cases e1
      · rename_i e1
        split at e1
        · split at e1 <;> cases e1
        · cases e1
      · exact h'.elim
    | rt x => rw [q] at h; exact h.elim
    | exc c ρ' => rw [q] at h; exact fun σ' H' O' F' s' t => h H' (keep t)
    | bk ρ' => rw [q] at h; exact h.elim
    | ct ρ' => rw [q] at h; exact h.elim
    | bad => rw [q] at h; exact h.elim
end
end PP

namespace PP
open PySem PySem.Spec PyProof.Rows L2
open Res (ok exc bad)

/-! ### whole numbers -/
def dSub : D → D → Option D
  | .int i, .int j => some (.int (i - j))
  | _, _ => none
def mulOk (i j : Int) : Bool := decide ((-(2 ^ 64) < i ∧ i < 2 ^ 64) ∨ (-(2 ^ 64) < j ∧ j < 2 ^ 64))
def dMul : D → D → Option D
  | .int i, .int j => if mulOk i j then some (.int (i * j)) else none
  | _, _ => none
def dMod : D → D → Option D
  | .int i, .int j => if 0 < j then some (.int (i % j)) else none
  | _, _ => none
def dDiv : D → D → Option D
  | .int i, .int j => if 0 < j ∧ j < 1073741824 then some (.int (i / j)) else none
  | _, _ => none
def dPow : D → D → Option D
  | .int i, .int j => if 0 ≤ j ∧ j ≤ 1000 ∧ i.natAbs < 2 ^ 64 then some (.int (i ^ j.toNat)) else none
  | _, _ => none
def dLt : D → D → Option D
  | .int i, .int j => some (.bl (decide (i < j)))
  | _, _ => none
def dLe : D → D → Option D
  | .int i, .int j => some (.bl (decide (i ≤ j)))
  | _, _ => none
def dGt : D → D → Option D
  | .int i, .int j => some (.bl (decide (j < i)))
  | _, _ => none
def dGe : D → D → Option D
  | .int i, .int j => some (.bl (decide (j ≤ i)))
  | _, _ => none
section
variable {K : PySem.W.Frag}
theorem op2_int {g : Int → Int → V} {C : Int → Int → Prop} {h : D → D → Option D} (hh : ∀ dx dy, (∃ i j d, dx = .int i ∧ dy = .int j ∧ C i j ∧ h dx dy = some d ∧ ∀ H O, Rep K H O (g i j) d) ∨ h dx dy = none) : Op2 K (rI C g) h := by
  intro H O x y dx dy Q dm rx ry q
  rcases hh dx dy with ⟨i, j, d, rfl, rfl, c, e, r⟩ | e
  · rw [e] at q
    exact ⟨i, j, rx.int, ry.int, c, q _ H (Same.refl H) (r H O)⟩
  · rw [e] at q; exact q.elim
theorem op2_int0 {g : Int → Int → V} {h : D → D → Option D} (hh : ∀ dx dy, (∃ i j d, dx = .int i ∧ dy = .int j ∧ h dx dy = some d ∧ ∀ H O, Rep K H O (g i j) d) ∨ h dx dy = none) : Op2 K (rI0 g) h := by
  intro H O x y dx dy Q dm rx ry q
  rcases hh dx dy with ⟨i, j, d, rfl, rfl, e, r⟩ | e
  · rw [e] at q
    exact ⟨i, j, rx.int, ry.int, q _ H (Same.refl H) (r H O)⟩
  · rw [e] at q; exact q.elim
theorem o_sub : Op2 K (rI0 fun i j => .int (i - j)) dSub := op2_int0 fun dx dy => by
  unfold dSub; split
  · exact .inl ⟨_, _, _, rfl, rfl, rfl, fun _ _ => .int _⟩
  · exact .inr rfl
theorem o_lt : Op2 K (rI0 fun i j => .bl (decide (i < j))) dLt := op2_int0 fun dx dy => by
  unfold dLt; split
  · exact .inl ⟨_, _, _, rfl, rfl, rfl, fun _ _ => .bl _⟩
  · exact .inr rfl
theorem o_le : Op2 K (rI0 fun i j => .bl (decide (i ≤ j))) dLe := op2_int0 fun dx dy => by
  unfold dLe; split
  · exact .inl ⟨_, _, _, rfl, rfl, rfl, fun _ _ => .bl _⟩
  · exact .inr rfl
theorem o_gt : Op2 K (rI0 fun i j => .bl (decide (j < i))) dGt := op2_int0 fun dx dy => by
  unfold dGt; split
  · exact .inl ⟨_, _, _, rfl, rfl, rfl, fun _ _ => .bl _⟩
  · exact .inr rfl
theorem o_ge : Op2 K (rI0 fun i j => .bl (decide (j ≤ i))) dGe := op2_int0 fun dx dy => by
  unfold dGe; split
  · exact .inl ⟨_, _, _, rfl, rfl, rfl, fun _ _ => .bl _⟩
  · exact .inr rfl
theorem o_mul : Op2 K (rI CMul fun i j => .int (i * j)) dMul := op2_int fun dx dy => by
  unfold dMul; split
  · rename_i i j
    by_cases c : mulOk i j = true
    · rw [if_pos c]; exact .inl ⟨i, j, _, rfl, rfl, (show (-(2 ^ 64) < i ∧ i < 2 ^ 64) ∨ (-(2 ^ 64) < j ∧ j < 2 ^ 64) from of_decide_eq_true c), rfl, fun _ _ => .int _⟩
    · rw [if_neg c]; exact .inr rfl
  · exact .inr rfl
theorem o_mod : Op2 K (rI (fun _ j => 0 < j) fun i j => .int (i % j)) dMod := op2_int fun dx dy => by
  unfold dMod; split
  · rename_i i j
    by_cases c : 0 < j
    · rw [if_pos c]; exact .inl ⟨_, _, _, rfl, rfl, c, rfl, fun _ _ => .int _⟩
    · rw [if_neg c]; exact .inr rfl
  · exact .inr rfl
theorem o_div : Op2 K (rI CDiv fun i j => .int (i / j)) dDiv := op2_int fun dx dy => by
  unfold dDiv; split
  · rename_i i j
    by_cases c : 0 < j ∧ j < 1073741824
    · rw [if_pos c]; exact .inl ⟨_, _, _, rfl, rfl, c, rfl, fun _ _ => .int _⟩
    · rw [if_neg c]; exact .inr rfl
  · exact .inr rfl
theorem o_pow : Op2 K (rI CPow fun i j => .int (i ^ j.toNat)) dPow := op2_int fun dx dy => by
  unfold dPow; split
  · rename_i i j
    by_cases c : 0 ≤ j ∧ j ≤ 1000 ∧ i.natAbs < 2 ^ 64
    · rw [if_pos c]; exact .inl ⟨_, _, _, rfl, rfl, ⟨c.1, by omega, c.2.2⟩, rfl, fun _ _ => .int _⟩
    · rw [if_neg c]; exact .inr rfl
  · exact .inr rfl
end

/-! ### + of numbers, texts, lists, tuples -/
def dAdd : D → D → Option D
  | .int i, .int j => some (.int (i + j))
  | .str x, .str y => if x.length + y.length ≤ sizeLine then some (.str (x ++ y)) else none
  | .lst xs, .lst ys => if xs.length + ys.length ≤ sizeLine then some (.lst (xs ++ ys)) else none
  | .tup xs, .tup ys => if xs.length + ys.length ≤ sizeLine then some (.tup (xs ++ ys)) else none
  | _, _ => none
def rCatS : R2 := fun x y H Q => ∃ l b xs zs, x = .ref l ∧ y = .ref b ∧ Rd H l (.lst xs) ∧ Rd H b (.lst zs) ∧ xs.length + zs.length ≤ sizeLine ∧ ∀ p, H p = none → Q (.ref p) (upd H p (.lst (xs ++ zs)))
section
variable {X : Cx}
theorem op_catS : OpR X (binaryOp .Add) rCatS := by
  intro pins s σ H x y v u Q I rx ry h
  obtain ⟨l, b, xs, zs, rfl, rfl, hH, hB, hz, q⟩ := h
  cases rx
  cases ry
  obtain ⟨hl, its, n, r, e⟩ := hH.ok I.hok
  obtain ⟨hl2, its2, n2, r2, e2⟩ := hB.ok I.hok
  have l1 := r.length
  have l2 := r2.length
  refine PySem.P.add_list e e2 ?_ (by rw [List.size_toArray, List.size_toArray]; omega)
  have ea : its.toArray ++ its2.toArray = (its ++ its2).toArray := by simp
  rw [ea]
  exact ⟨.ref _, _, I.lnew (t' := s.toks) (r.append r2) (by rw [List.length_append]; omega), rfl, q _ I.fresh⟩
def rAddA (K : PySem.W.Frag) : R2 := fun x y H Q => (∃ i j, x = .int i ∧ y = .int j ∧ Q (.int (i + j)) H) ∨ (∃ i j, x = .str i ∧ y = .str j ∧ i.length + j.length ≤ sizeLine ∧ Q (.str (i ++ j)) H) ∨ rCatS x y H Q ∨ rCatA K x y H Q
theorem op_addA : OpR X (binaryOp .Add) (rAddA X.K) := op_add.or (op_add_str.or (op_catS.or op_catA))
theorem o_add {K : PySem.W.Frag} : Op2 K (rAddA K) dAdd := by
  intro H O x y dx dy Q dm rx ry q
  unfold dAdd at q
  split at q
  · exact .inl ⟨_, _, rx.int, ry.int, q _ H (Same.refl H) (.int _)⟩
  · rename_i a b
    by_cases c : a.length + b.length ≤ sizeLine
    · rw [if_pos c] at q; exact .inr (.inl ⟨_, _, rx.str, ry.str, c, q _ H (Same.refl H) (.str _)⟩)
    · rw [if_neg c] at q; exact q.elim
  · rename_i xs ys
    by_cases c : xs.length + ys.length ≤ sizeLine
    · rw [if_pos c] at q
      obtain ⟨a, vs, rfl, h1, z1, r1⟩ := rx.lstR
      obtain ⟨b, ws, rfl, h2, z2, r2⟩ := ry.lstR
      have hz : vs.length + ws.length ≤ sizeLine := by rw [r1.length, r2.length]; exact c
      exact .inr (.inr (.inl ⟨a, b, vs, ws, rfl, rfl, h1, h2, hz, fun p n => q _ _ (same_new n) (.lst (.inl upd_same) (fun h => (dm p h).1 n) (by rw [List.length_append]; exact hz) ((r1.append r2).same (same_new n)))⟩))
    · rw [if_neg c] at q; exact q.elim
  · rename_i xs ys
    by_cases c : xs.length + ys.length ≤ sizeLine
    · rw [if_pos c] at q
      obtain ⟨a, vs, rfl, h1, z1, r1⟩ := rx.tup
      obtain ⟨b, ws, rfl, h2, z2, r2⟩ := ry.tup
      have hz : vs.length + ws.length ≤ sizeLine := by rw [r1.length, r2.length]; exact c
      refine .inr (.inr (.inr ⟨a, b, vs, ws, rfl, rfl, h1, h2, hz, fun e => ?_, fun _ e => ?_, fun _ _ p n => q _ _ (same_new n) (rep_newT n (by rw [List.length_append]; exact hz) (r1.append r2))⟩))
      · subst e
        cases r1
        exact q _ H (Same.refl H) (.tup h2 z2 r2)
      · subst e
        cases r2
        refine q _ H (Same.refl H) ?_
        rw [List.append_nil]
        exact .tup h1 z1 r1
    · rw [if_neg c] at q; exact q.elim
  · exact q.elim
/-- xs + ys, a new list that may be changed -/
def dCat : D → D → Option D
  | .lst xs, .lst ys => if xs.length + ys.length ≤ sizeLine then some (.lst (xs ++ ys)) else none
  | _, _ => none
theorem o_catN {K : PySem.W.Frag} : Op2N K rCatS dCat := by
  intro H O x y dx dy Q dm rx ry q
  unfold dCat at q
  split at q
  · rename_i xs ys
    by_cases c : xs.length + ys.length ≤ sizeLine
    · rw [if_pos c] at q
      obtain ⟨a, vs, rfl, h1, z1, r1⟩ := rx.lstR
      obtain ⟨b, ws, rfl, h2, z2, r2⟩ := ry.lstR
      have hz : vs.length + ws.length ≤ sizeLine := by rw [r1.length, r2.length]; exact c
      exact ⟨a, b, vs, ws, rfl, rfl, h1, h2, hz, fun p n => q _ p _ (same_new n) n (.newL n (by rw [List.length_append]; exact hz) (r1.append r2))⟩
    · rw [if_neg c] at q; exact q.elim
  · exact q.elim
end

/-! ### == of data -/
mutual
def toPD : D → Option PyData
  | .non => some .none
  | .bl b => some (.bool b)
  | .int i => some (.int i)
  | .str x => some (.str x)
  | .tup xs => (toPDs xs).map .tuple
  | .lst xs => (toPDs xs).map .list
  | .kl xs => (toPDs xs).map .list
  | _ => none
def toPDs : List D → Option (List PyData)
  | [] => some []
  | x :: xs => (toPD x).bind fun p => (toPDs xs).map fun ps => p :: ps
end
section
variable {K : PySem.W.Frag} {H : Hp} {O : Addr → Prop}
mutual
theorem Rep.dp : ∀ {v d p}, Rep K H O v d → toPD d = some p → Dp K H v p
  | _, _, _, .non, e => by simp [toPD] at e; subst e; exact .non
  | _, _, _, .bl b, e => by simp [toPD] at e; subst e; exact .bl b
  | _, _, _, .int i, e => by simp [toPD] at e; subst e; exact .int i
  | _, _, _, .str x, e => by simp [toPD] at e; subst e; exact .str x
  | _, _, _, .ty n, e => by simp [toPD] at e
  | _, _, _, .tup h z r, e => by
    simp [toPD] at e
    obtain ⟨ps, e1, e2⟩ := e
    subst e2
    exact .tup h (Reps.dp r e1)
  | _, _, _, .lst h n z r, e => by
    simp [toPD] at e
    obtain ⟨ps, e1, e2⟩ := e
    subst e2
    exact .lst (.inl h) (Reps.dp r e1)
  | _, _, _, .kl h z r, e => by
    simp [toPD] at e
    obtain ⟨ps, e1, e2⟩ := e
    subst e2
    exact .lst h.sql (Reps.dp r e1)
  | _, _, _, .obj h n r, e => by simp [toPD] at e
theorem Reps.dp : ∀ {vs ds ps}, Reps K H O vs ds → toPDs ds = some ps → DpAll K H vs ps
  | _, _, _, .nil, e => by simp [toPDs] at e; subst e; exact .nil
  | _, _, _, .cons r t, e => by
    simp only [toPDs, Option.bind_eq_some_iff, Option.map_eq_some_iff] at e
    obtain ⟨p, e1, ps, e2, e3⟩ := e
    subst e3
    exact .cons (Rep.dp r e1) (Reps.dp t e2)
end
theorem RepB.dp {v : V} {d : D} {p : PyData} (r : RepB K H O v d) (e : toPD d = some p) : Dp K H v p := by
  rcases r with r | ⟨a, e1, r⟩
  · exact r.dp e
  · subst e1
    cases d with
    | lst ds =>
      obtain ⟨vs, e2, z, r⟩ := r
      simp [toPD] at e
      obtain ⟨ps, e3, e4⟩ := e
      subst e4
      exact .lst (.of e2) (r.dp e3)
    | obj c gs => simp [toPD] at e
    | _ => exact r.elim
end
def deepEq (a b : D) : Option Bool := (toPD a).bind fun p => (toPD b).bind fun q => if SeqAt.shaped p && SeqAt.shaped q then some (PyData.eqv p q) else none
def dEq : D → D → Option D
  | .int i, .int j => some (.bl (decide (i = j)))
  | .str x, .str y => some (.bl (decide (x = y)))
  | .bl x, .bl y => some (.bl (decide (x = y)))
  | .non, .non => some (.bl true)
  | .non, .int _ => some (.bl false)
  | .non, .str _ => some (.bl false)
  | .int _, .non => some (.bl false)
  | .str _, .non => some (.bl false)
  | a, b => (deepEq a b).map .bl
def dNe (a b : D) : Option D := match dEq a b with
  | some (.bl k) => some (.bl (!k))
  | _ => none
section
variable {X : Cx}
def rEqA (K : PySem.W.Frag) : R2 := fun x y H Q => rEq x y H Q ∨ rEqD K x y H Q
def rNeA (K : PySem.W.Frag) : R2 := fun x y H Q => rNe x y H Q ∨ rNeD K x y H Q
theorem op_eqA (hu : X.A.units + 64 < cLine) : OpR X (compareOp .Eq) (rEqA X.K) := op_eq.or (op_eqD hu)
theorem op_neA (hu : X.A.units + 64 < cLine) : OpR X (compareOp .NotEq) (rNeA X.K) := op_ne.or (op_neD hu)
theorem dEq_cases {K : PySem.W.Frag} {H : Hp} {O : Addr → Prop} {x y : V} {dx dy d : D} (rx : RepB K H O x dx) (ry : RepB K H O y dy) (e : dEq dx dy = some d) :
    ∃ k, d = .bl k ∧ ((scal x y = true ∧ k = decide (x = y)) ∨ ∃ p q, Dp K H x p ∧ Dp K H y q ∧ SeqAt.shaped p = true ∧ SeqAt.shaped q = true ∧ k = PyData.eqv p q) := by
  unfold dEq at e
  split at e
  · cases e; rw [rx.int, ry.int]; exact ⟨_, rfl, .inl ⟨rfl, by simp⟩⟩
  · cases e; rw [rx.str, ry.str]; exact ⟨_, rfl, .inl ⟨rfl, by simp⟩⟩
  · cases e; rw [rx.bl, ry.bl]; exact ⟨_, rfl, .inl ⟨rfl, by simp⟩⟩
  · cases e; rw [rx.non, ry.non]; exact ⟨_, rfl, .inl ⟨rfl, by simp⟩⟩
  · cases e; rw [rx.non, ry.int]; exact ⟨_, rfl, .inl ⟨rfl, by simp⟩⟩
  · cases e; rw [rx.non, ry.str]; exact ⟨_, rfl, .inl ⟨rfl, by simp⟩⟩
  · cases e; rw [rx.int, ry.non]; exact ⟨_, rfl, .inl ⟨rfl, by simp⟩⟩
  · cases e; rw [rx.str, ry.non]; exact ⟨_, rfl, .inl ⟨rfl, by simp⟩⟩
  · obtain ⟨k, e1, e2⟩ := Option.map_eq_some_iff.mp e
    subst e2
    unfold deepEq at e1
    obtain ⟨p, e3, e1⟩ := Option.bind_eq_some_iff.mp e1
    obtain ⟨q, e4, e1⟩ := Option.bind_eq_some_iff.mp e1
    by_cases c : (SeqAt.shaped p && SeqAt.shaped q) = true
    · rw [if_pos c] at e1
      obtain ⟨c1, c2⟩ := Bool.and_eq_true_iff.mp c
      cases e1
      exact ⟨_, rfl, .inr ⟨p, q, rx.dp e3, ry.dp e4, c1, c2, rfl⟩⟩
    · rw [if_neg c] at e1; cases e1
theorem o_eq {K : PySem.W.Frag} : Op2 K (rEqA K) dEq := by
  intro H O x y dx dy Q dm rx ry q
  cases e : dEq dx dy with
  | none => rw [e] at q; exact q.elim
  | some d =>
    rw [e] at q
    obtain ⟨k, rfl, ⟨h1, rfl⟩ | ⟨p, p', h1, h2, h3, h4, rfl⟩⟩ := dEq_cases rx ry e
    · exact .inl ⟨h1, q _ H (Same.refl H) (.bl _)⟩
    · exact .inr ⟨p, p', h1, h2, h3, h4, q _ H (Same.refl H) (.bl _)⟩
theorem o_ne {K : PySem.W.Frag} : Op2 K (rNeA K) dNe := by
  intro H O x y dx dy Q dm rx ry q
  unfold dNe at q
  cases e : dEq dx dy with
  | none => rw [e] at q; exact q.elim
  | some d =>
    obtain ⟨k, rfl, ⟨h1, rfl⟩ | ⟨p, p', h1, h2, h3, h4, rfl⟩⟩ := dEq_cases rx ry e
    · rw [e] at q; exact .inl ⟨h1, q _ H (Same.refl H) (.bl _)⟩
    · rw [e] at q; exact .inr ⟨p, p', h1, h2, h3, h4, q _ H (Same.refl H) (.bl _)⟩
/-! ### in -/
def inSeq (d : D) (xs : List D) : Option Bool := (toPD d).bind fun p => (toPDs xs).bind fun ps => if SeqAt.shaped p && SeqAt.shaped (.list ps) then some (ps.any fun z => PyData.eqv z p) else none
def dIn : D → D → Option D
  | .str x, .str z => (match x.cps.toList with
    | [c] => some (.bl (decide (c ∈ z.cps.toList)))
    | _ => none)
  | d, .lst xs => (inSeq d xs).map .bl
  | d, .kl xs => (inSeq d xs).map .bl
  | d, .tup xs => (inSeq d xs).map .bl
  | _, _ => none
def dNotIn (a b : D) : Option D := match dIn a b with
  | some (.bl k) => some (.bl (!k))
  | _ => none
def rInT (K : PySem.W.Frag) : R2 := fun x y H Q => ∃ d ds, Dp K H x d ∧ Dp K H y (.tuple ds) ∧ SeqAt.shaped d = true ∧ SeqAt.shaped (.tuple ds) = true ∧ Q (.bl (ds.any fun z => PyData.eqv z d)) H
def rNotInT (K : PySem.W.Frag) : R2 := fun x y H Q => ∃ d ds, Dp K H x d ∧ Dp K H y (.tuple ds) ∧ SeqAt.shaped d = true ∧ SeqAt.shaped (.tuple ds) = true ∧ Q (.bl (!ds.any fun z => PyData.eqv z d)) H
theorem op_inT (hu : X.A.units + 65 < cLine) : OpR X (compareOp .In) (rInT X.K) := by
  intro pins s σ H x y v u Q I rx ry h
  obtain ⟨d, ds, hd, he, sd, se, q⟩ := h
  obtain ⟨as, r1⟩ := Dp.reads I d x v hd rx
  obtain ⟨bs, r2⟩ := Dp.reads I (.tuple ds) y u he ry
  exact SeqAt.in_tuple_reads r2 r1 (SeqAt.canLay_of_shaped se) (SeqAt.canLay_of_shaped sd) (room_in_shaped sd hu) ⟨.bl _, H, I, rfl, q⟩
theorem op_notInT (hu : X.A.units + 65 < cLine) : OpR X (compareOp .NotIn) (rNotInT X.K) := by
  intro pins s σ H x y v u Q I rx ry h
  obtain ⟨d, ds, hd, he, sd, se, q⟩ := h
  obtain ⟨as, r1⟩ := Dp.reads I d x v hd rx
  obtain ⟨bs, r2⟩ := Dp.reads I (.tuple ds) y u he ry
  exact SeqAt.notIn_tuple_reads r2 r1 (SeqAt.canLay_of_shaped se) (SeqAt.canLay_of_shaped sd) (room_in_shaped sd hu) ⟨.bl _, H, I, rfl, q⟩
def rInSign : R2 := fun x y H Q => ∃ (c : Nat) (z : Str), x = .str ⟨#[c]⟩ ∧ y = .str z ∧ Q (.bl (decide (c ∈ z.cps.toList))) H
def rNotInSign : R2 := fun x y H Q => ∃ (c : Nat) (z : Str), x = .str ⟨#[c]⟩ ∧ y = .str z ∧ Q (.bl (!decide (c ∈ z.cps.toList))) H
def rInA (K : PySem.W.Frag) : R2 := fun x y H Q => rInD K x y H Q ∨ rInT K x y H Q ∨ rInSign x y H Q
def rNotInA (K : PySem.W.Frag) : R2 := fun x y H Q => rNotInD K x y H Q ∨ rNotInT K x y H Q ∨ rNotInSign x y H Q
theorem op_inA (hu : X.A.units + 65 < cLine) : OpR X (compareOp .In) (rInA X.K) := (op_inD hu).or ((op_inT hu).or op_in_sign)
theorem op_notInA (hu : X.A.units + 65 < cLine) : OpR X (compareOp .NotIn) (rNotInA X.K) := (op_notInD hu).or ((op_notInT hu).or op_notIn_sign)
theorem shaped_tuple {ps : List PyData} (h : SeqAt.shaped (.list ps) = true) : SeqAt.shaped (.tuple ps) = true := by
  unfold SeqAt.shaped at h ⊢
  simpa [PyData.canLay0, PyData.depth] using h
theorem inSeq_ok {d : D} {xs : List D} {b : Bool} (h : inSeq d xs = some b) : ∃ p ps, toPD d = some p ∧ toPDs xs = some ps ∧ SeqAt.shaped p = true ∧ SeqAt.shaped (.list ps) = true ∧ b = ps.any fun z => PyData.eqv z p := by
  unfold inSeq at h
  obtain ⟨p, e1, h⟩ := Option.bind_eq_some_iff.mp h
  obtain ⟨ps, e2, h⟩ := Option.bind_eq_some_iff.mp h
  by_cases c : (SeqAt.shaped p && SeqAt.shaped (.list ps)) = true
  · rw [if_pos c] at h
    obtain ⟨c1, c2⟩ := Bool.and_eq_true_iff.mp c
    cases h
    exact ⟨p, ps, e1, e2, c1, c2, rfl⟩
  · rw [if_neg c] at h; cases h
theorem dIn_cases {K : PySem.W.Frag} {H : Hp} {O : Addr → Prop} {x y : V} {dx dy d : D} (rx : RepB K H O x dx) (ry : RepB K H O y dy) (e : dIn dx dy = some d) :
    ∃ k, d = .bl k ∧ ((∃ p ps, Dp K H x p ∧ (Dp K H y (.list ps) ∨ Dp K H y (.tuple ps)) ∧ SeqAt.shaped p = true ∧ SeqAt.shaped (.list ps) = true ∧ k = ps.any fun z => PyData.eqv z p) ∨ ∃ c z, x = .str ⟨#[c]⟩ ∧ y = .str z ∧ k = decide (c ∈ z.cps.toList)) := by
  unfold dIn at e
  split at e
  · rename_i x' z
    split at e
    · rename_i c hc
      cases e
      have ex : x' = ⟨#[c]⟩ := by
        obtain ⟨a⟩ := x'
        have : a = #[c] := by
          have h2 : a.toList = [c] := hc
          calc a = a.toList.toArray := by simp
            _ = #[c] := by rw [h2]
        rw [this]
      exact ⟨_, rfl, .inr ⟨c, z, by rw [rx.str, ex], ry.str, rfl⟩⟩
    · cases e
  · obtain ⟨k, e1, e2⟩ := Option.map_eq_some_iff.mp e
    obtain ⟨p, ps, h1, h2, h3, h4, h5⟩ := inSeq_ok e1
    exact ⟨k, e2.symm, .inl ⟨p, ps, rx.dp h1, .inl (ry.dp (by simp [toPD, h2])), h3, h4, h5⟩⟩
  · obtain ⟨k, e1, e2⟩ := Option.map_eq_some_iff.mp e
    obtain ⟨p, ps, h1, h2, h3, h4, h5⟩ := inSeq_ok e1
    exact ⟨k, e2.symm, .inl ⟨p, ps, rx.dp h1, .inl (ry.dp (by simp [toPD, h2])), h3, h4, h5⟩⟩
  · obtain ⟨k, e1, e2⟩ := Option.map_eq_some_iff.mp e
    obtain ⟨p, ps, h1, h2, h3, h4, h5⟩ := inSeq_ok e1
    exact ⟨k, e2.symm, .inl ⟨p, ps, rx.dp h1, .inr (ry.dp (by simp [toPD, h2])), h3, h4, h5⟩⟩
  · cases e
theorem o_in {K : PySem.W.Frag} : Op2 K (rInA K) dIn := by
  intro H O x y dx dy Q dm rx ry q
  cases e : dIn dx dy with
  | none => rw [e] at q; exact q.elim
  | some d =>
    rw [e] at q
    obtain ⟨k, rfl, ⟨p, ps, h1, h2 | h2, h3, h4, rfl⟩ | ⟨c, z, h1, h2, rfl⟩⟩ := dIn_cases rx ry e
    · exact .inl ⟨p, ps, h1, h2, h3, h4, q _ H (Same.refl H) (.bl _)⟩
    · exact .inr (.inl ⟨p, ps, h1, h2, h3, shaped_tuple h4, q _ H (Same.refl H) (.bl _)⟩)
    · exact .inr (.inr ⟨c, z, h1, h2, q _ H (Same.refl H) (.bl _)⟩)
theorem o_notIn {K : PySem.W.Frag} : Op2 K (rNotInA K) dNotIn := by
  intro H O x y dx dy Q dm rx ry q
  unfold dNotIn at q
  cases e : dIn dx dy with
  | none => rw [e] at q; exact q.elim
  | some d =>
    obtain ⟨k, rfl, ⟨p, ps, h1, h2 | h2, h3, h4, rfl⟩ | ⟨c, z, h1, h2, rfl⟩⟩ := dIn_cases rx ry e
    · rw [e] at q; exact .inl ⟨p, ps, h1, h2, h3, h4, q _ H (Same.refl H) (.bl _)⟩
    · rw [e] at q; exact .inr (.inl ⟨p, ps, h1, h2, h3, shaped_tuple h4, q _ H (Same.refl H) (.bl _)⟩)
    · rw [e] at q; exact .inr (.inr ⟨c, z, h1, h2, q _ H (Same.refl H) (.bl _)⟩)
/-! ### is None -/
def dIsN : D → D → Option D
  | .non, .non => some (.bl true)
  | .obj _ _, .non => some (.bl false)
  | .lst _, .non => some (.bl false)
  | .tup _, .non => some (.bl false)
  | .int _, .non => some (.bl false)
  | .str _, .non => some (.bl false)
  | .bl _, .non => some (.bl false)
  | _, _ => none
def dNotN (a b : D) : Option D := match dIsN a b with
  | some (.bl k) => some (.bl (!k))
  | _ => none
def rIsN : R2 := fun x y H Q => y = .non ∧ Q (.bl (decide (x = .non))) H
def rNotN : R2 := fun x y H Q => y = .non ∧ Q (.bl (!decide (x = .non))) H
theorem dIsN_ok {K : PySem.W.Frag} {H : Hp} {O : Addr → Prop} {x y : V} {dx dy d : D} (rx : RepB K H O x dx) (ry : RepB K H O y dy) (e : dIsN dx dy = some d) : y = .non ∧ d = .bl (decide (x = .non)) := by
  unfold dIsN at e
  split at e <;> cases e
  · rw [rx.non, ry.non]; exact ⟨rfl, rfl⟩
  · obtain ⟨a, _, _, e1, _⟩ := rx.obj; rw [e1, ry.non]; exact ⟨rfl, rfl⟩
  · obtain ⟨a, _, e1, _⟩ := rx.lst; rw [e1, ry.non]; exact ⟨rfl, rfl⟩
  · obtain ⟨a, _, e1, _⟩ := rx.tup; rw [e1, ry.non]; exact ⟨rfl, rfl⟩
  · rw [rx.int, ry.non]; exact ⟨rfl, rfl⟩
  · rw [rx.str, ry.non]; exact ⟨rfl, rfl⟩
  · rw [rx.bl, ry.non]; exact ⟨rfl, rfl⟩
theorem o_isN {K : PySem.W.Frag} : Op2 K rIsN dIsN := by
  intro H O x y dx dy Q dm rx ry q
  cases e : dIsN dx dy with
  | none => rw [e] at q; exact q.elim
  | some d =>
    rw [e] at q
    obtain ⟨h1, rfl⟩ := dIsN_ok rx ry e
    exact ⟨h1, q _ H (Same.refl H) (.bl _)⟩
theorem o_notN {K : PySem.W.Frag} : Op2 K rNotN dNotN := by
  intro H O x y dx dy Q dm rx ry q
  unfold dNotN at q
  cases e : dIsN dx dy with
  | none => rw [e] at q; exact q.elim
  | some d =>
    obtain ⟨h1, rfl⟩ := dIsN_ok rx ry e
    rw [e] at q
    exact ⟨h1, q _ H (Same.refl H) (.bl _)⟩
/-! ### o[i] -/
def dIx : D → D → Option D
  | .lst xs, .int i => atI xs i
  | .kl xs, .int i => atI xs i
  | .tup xs, .int i => atI xs i
  | .str z, .int i => if z.length ≤ sizeLine then (atI z.cps.toList i).map fun c => .str ⟨#[c]⟩ else none
  | _, _ => none
theorem Reps.atI {K : PySem.W.Frag} {H : Hp} {O : Addr → Prop} {vs : List V} {ds : List D} {i : Int} {d : D} (r : Reps K H O vs ds) (h : L2.atI ds i = some d) : ∃ v, L2.atI vs i = some v ∧ Rep K H O v d := by
  unfold L2.atI at h ⊢
  rw [r.length]
  obtain ⟨j, e1, e2⟩ := Option.bind_eq_some_iff.mp h
  obtain ⟨v, e3, e4⟩ := r.get e2
  exact ⟨v, by rw [e1]; exact e3, e4⟩
theorem o_ix {K : PySem.W.Frag} : Op2 K (rIx K) dIx := by
  intro H O x y dx dy Q dm rx ry q
  cases e : dIx dx dy with
  | none => rw [e] at q; exact q.elim
  | some d =>
    rw [e] at q
    unfold dIx at e
    split at e
    · obtain ⟨a, vs, rfl, h1, z, r⟩ := rx.lst
      obtain ⟨v, e1, rv⟩ := r.atI e
      exact .inl ⟨a, vs, _, v, rfl, ry.int, h1, e1, q _ H (Same.refl H) rv⟩
    · obtain ⟨a, vs, rfl, h1, z, r⟩ := rx.kl
      obtain ⟨v, e1, rv⟩ := r.atI e
      exact .inl ⟨a, vs, _, v, rfl, ry.int, h1, e1, q _ H (Same.refl H) rv⟩
    · obtain ⟨a, vs, rfl, h1, z, r⟩ := rx.tup
      obtain ⟨v, e1, rv⟩ := r.atI e
      exact .inr (.inl ⟨a, vs, _, v, rfl, ry.int, h1, e1, q _ H (Same.refl H) rv⟩)
    · rename_i z i
      by_cases c : z.length ≤ sizeLine
      · rw [if_pos c] at e
        obtain ⟨c', e1, e2⟩ := Option.map_eq_some_iff.mp e
        subst e2
        exact .inr (.inr ⟨z, i, c', rx.str, ry.int, c, e1, q _ H (Same.refl H) (.str _)⟩)
      · rw [if_neg c] at e; cases e
    · cases e
/-! ### o[i:j] -/
def cutD (xs : List D) (lo hi : Option Int) : List D := (xs.drop (HT.sIx xs.length 0 lo)).take (HT.sIx xs.length xs.length hi - HT.sIx xs.length 0 lo)
def dSl : D → Option Int → Option Int → Option D
  | .lst xs, lo, hi => some (.lst (cutD xs lo hi))
  | .kl xs, lo, hi => some (.lst (cutD xs lo hi))
  | .tup xs, lo, hi => some (.tup (cutD xs lo hi))
  | .str z, lo, hi => if z.length ≤ sizeLine then some (.str (cutS z lo hi)) else none
  | _, _, _ => none
def rSlA' (K : PySem.W.Frag) : V → Option Int → Option Int → Hp → VK → Prop := fun x lo hi H Q => rSlL K x lo hi H Q ∨ rSlA K x lo hi H Q ∨ rSlS x lo hi H Q
theorem sl_any : SlR X (rSlA' X.K) := sl_list.or (sl_tupA.or sl_str)
theorem Reps.cut {K : PySem.W.Frag} {H : Hp} {O : Addr → Prop} {vs : List V} {ds : List D} (r : Reps K H O vs ds) (lo hi : Option Int) : Reps K H O (cutV vs lo hi) (cutD ds lo hi) := by
  unfold cutV cutD
  rw [r.length]
  exact (r.drop _).take _
theorem cut_whole {xs : List D} {lo hi : Option Int} (h : HT.sIx xs.length 0 lo = 0 ∧ HT.sIx xs.length xs.length hi = xs.length) : cutD xs lo hi = xs := by
  unfold cutD
  rw [h.1, h.2]
  simp
theorem s_any {K : PySem.W.Frag} : Sl3 K (rSlA' K) dSl := by
  intro H O x dx lo hi Q dm rx q
  unfold dSl at q
  split at q
  · obtain ⟨a, vs, rfl, h1, z, r⟩ := rx.lst
    exact .inl ⟨a, vs, rfl, h1, fun p n => q _ _ (same_new n) (.lst (.inl upd_same) (fun h => (dm p h).1 n) (Nat.le_trans (cutV_length _ _ _) z) ((r.cut _ _).same (same_new n)))⟩
  · obtain ⟨a, vs, rfl, h1, z, r⟩ := rx.kl
    exact .inl ⟨a, vs, rfl, h1, fun p n => q _ _ (same_new n) (.lst (.inl upd_same) (fun h => (dm p h).1 n) (Nat.le_trans (cutV_length _ _ _) z) ((r.cut _ _).same (same_new n)))⟩
  · rename_i xs
    obtain ⟨a, vs, rfl, h1, z, r⟩ := rx.tup
    refine .inr (.inl ⟨a, vs, rfl, h1, fun w => ?_, fun _ p n => q _ _ (same_new n) (rep_newT n (Nat.le_trans (cutV_length _ _ _) z) (r.cut _ _))⟩)
    rw [r.length] at w
    rw [cut_whole w] at q
    exact q _ H (Same.refl H) (.tup h1 z r)
  · rename_i z
    by_cases c : z.length ≤ sizeLine
    · rw [if_pos c] at q; exact .inr (.inr ⟨z, rx.str, c, q _ H (Same.refl H) (.str _)⟩)
    · rw [if_neg c] at q; exact q.elim
  · exact q.elim
def dSlN : D → Option Int → Option Int → Option D
  | .lst xs, lo, hi => some (.lst (cutD xs lo hi))
  | .kl xs, lo, hi => some (.lst (cutD xs lo hi))
  | _, _, _ => none
theorem s_listN {K : PySem.W.Frag} : Sl3N K (rSlL K) dSlN := by
  intro H O x dx lo hi Q dm rx q
  unfold dSlN at q
  split at q
  · obtain ⟨a, vs, rfl, h1, z, r⟩ := rx.lst
    exact ⟨a, vs, rfl, h1, fun p n => q _ p _ (same_new n) n (.newL n (Nat.le_trans (cutV_length _ _ _) z) (r.cut _ _))⟩
  · obtain ⟨a, vs, rfl, h1, z, r⟩ := rx.kl
    exact ⟨a, vs, rfl, h1, fun p n => q _ p _ (same_new n) n (.newL n (Nat.le_trans (cutV_length _ _ _) z) (r.cut _ _))⟩
  · exact q.elim
end
end PP

namespace PP
open PySem PySem.Spec PyProof.Rows L2
open Res (ok exc bad)
section
variable {K : PySem.W.Frag} {H : Hp} {O : Addr → Prop}
theorem RepBs.one {vs : List V} {d : D} (r : RepBs K H O vs [d]) : ∃ v, vs = [v] ∧ RepB K H O v d := by
  cases r with
  | cons r t => cases t; exact ⟨_, rfl, r⟩
theorem RepBs.two {vs : List V} {d e : D} (r : RepBs K H O vs [d, e]) : ∃ v u, vs = [v, u] ∧ RepB K H O v d ∧ RepB K H O u e := by
  cases r with
  | cons r t =>
    obtain ⟨u, e1, r2⟩ := t.one
    subst e1
    exact ⟨_, _, rfl, r, r2⟩
end
/-! ### len, abs, int, tuple, list -/
def dLen : List D → Option D
  | [.lst xs] => some (.int xs.length)
  | [.kl xs] => some (.int xs.length)
  | [.tup xs] => some (.int xs.length)
  | [.str z] => if z.length ≤ sizeLine then some (.int z.length) else none
  | _ => none
theorem c_len {K : PySem.W.Frag} : Cl1 K (fun xs H Q => ∃ x n, xs = [x] ∧ LenV K x H n ∧ Q (.int n) H) dLen := by
  intro H O vs ds Q dm rs q
  unfold dLen at q
  split at q
  · obtain ⟨v, rfl, r⟩ := rs.one
    obtain ⟨a, us, rfl, h, z, r2⟩ := r.lst
    exact ⟨_, us.length, rfl, .inl ⟨us, h, rfl⟩, by rw [r2.length]; exact q _ H (Same.refl H) (.int _)⟩
  · obtain ⟨v, rfl, r⟩ := rs.one
    obtain ⟨a, us, rfl, h, z, r2⟩ := r.kl
    exact ⟨_, us.length, rfl, .inl ⟨us, h, rfl⟩, by rw [r2.length]; exact q _ H (Same.refl H) (.int _)⟩
  · obtain ⟨v, rfl, r⟩ := rs.one
    obtain ⟨a, us, rfl, h, z, r2⟩ := r.tup
    exact ⟨_, us.length, rfl, .inr ⟨us, h, rfl⟩, by rw [r2.length]; exact q _ H (Same.refl H) (.int _)⟩
  · rename_i z
    by_cases c : z.length ≤ sizeLine
    · rw [if_pos c] at q
      obtain ⟨v, rfl, r⟩ := rs.one
      have ev := r.str
      subst ev
      exact ⟨.str z, z.length, rfl, ⟨c, rfl⟩, q _ H (Same.refl H) (.int _)⟩
    · rw [if_neg c] at q; exact q.elim
  · exact q.elim
def dAbs : List D → Option D
  | [.int i] => some (.int (if i < 0 then -i else i))
  | _ => none
theorem c_abs {K : PySem.W.Frag} : Cl1 K (fun xs H Q => ∃ i, xs = [.int i] ∧ Q (.int (if i < 0 then -i else i)) H) dAbs := by
  intro H O vs ds Q dm rs q
  unfold dAbs at q
  split at q
  · obtain ⟨v, rfl, r⟩ := rs.one
    rw [r.int]
    exact ⟨_, rfl, q _ H (Same.refl H) (.int _)⟩
  · exact q.elim
def dInt : List D → Option D
  | [.int i] => some (.int i)
  | [.bl b] => some (.int (if b then 1 else 0))
  | _ => none
theorem c_int {K : PySem.W.Frag} : Cl1 K (fun xs H Q => (∃ i, xs = [.int i] ∧ Q (.int i) H) ∨ ∃ k, xs = [.bl k] ∧ Q (.int (if k then 1 else 0)) H) dInt := by
  intro H O vs ds Q dm rs q
  unfold dInt at q
  split at q
  · obtain ⟨v, rfl, r⟩ := rs.one
    rw [r.int]
    exact .inl ⟨_, rfl, q _ H (Same.refl H) (.int _)⟩
  · obtain ⟨v, rfl, r⟩ := rs.one
    rw [r.bl]
    exact .inr ⟨_, rfl, q _ H (Same.refl H) (.int _)⟩
  · exact q.elim
def dTuple : List D → Option D
  | [.lst xs] => some (.tup xs)
  | [.kl xs] => some (.tup xs)
  | [.tup xs] => some (.tup xs)
  | _ => none
theorem c_tuple {K : PySem.W.Frag} : Cl1 K (fun xs H Q => ∃ p ys, xs = [.ref p] ∧ ((SqL K H p ys ∧ ∀ l, H l = none → Q (.ref l) (upd H l (.tup ys))) ∨ (SqT K H p ys ∧ Q (.ref p) H))) dTuple := by
  intro H O vs ds Q dm rs q
  unfold dTuple at q
  split at q
  · obtain ⟨v, rfl, r⟩ := rs.one
    obtain ⟨a, us, rfl, h, z, r2⟩ := r.lst
    exact ⟨a, us, rfl, .inl ⟨h, fun p n => q _ _ (same_new n) (rep_newT n z r2)⟩⟩
  · obtain ⟨v, rfl, r⟩ := rs.one
    obtain ⟨a, us, rfl, h, z, r2⟩ := r.kl
    exact ⟨a, us, rfl, .inl ⟨h, fun p n => q _ _ (same_new n) (rep_newT n z r2)⟩⟩
  · obtain ⟨v, rfl, r⟩ := rs.one
    obtain ⟨a, us, rfl, h, z, r2⟩ := r.tup
    exact ⟨a, us, rfl, .inr ⟨h, q _ H (Same.refl H) (.tup h z r2)⟩⟩
  · exact q.elim
def dList : List D → Option D
  | [.lst xs] => some (.lst xs)
  | [.kl xs] => some (.lst xs)
  | [.tup xs] => some (.lst xs)
  | _ => none
theorem c_list {K : PySem.W.Frag} : Cl1N K (fun xs H Q => ∃ p ys, xs = [.ref p] ∧ (SqL K H p ys ∨ SqT K H p ys) ∧ ∀ l, H l = none → Q (.ref l) (upd H l (.lst ys))) dList := by
  intro H O vs ds Q dm rs q
  unfold dList at q
  split at q
  · obtain ⟨v, rfl, r⟩ := rs.one
    obtain ⟨a, us, rfl, h, z, r2⟩ := r.lst
    exact ⟨a, us, rfl, .inl h, fun p n => q _ p _ (same_new n) n (.newL n z r2)⟩
  · obtain ⟨v, rfl, r⟩ := rs.one
    obtain ⟨a, us, rfl, h, z, r2⟩ := r.kl
    exact ⟨a, us, rfl, .inl h, fun p n => q _ p _ (same_new n) n (.newL n z r2)⟩
  · obtain ⟨v, rfl, r⟩ := rs.one
    obtain ⟨a, us, rfl, h, z, r2⟩ := r.tup
    exact ⟨a, us, rfl, .inr h, fun p n => q _ p _ (same_new n) n (.newL n z r2)⟩
  · exact q.elim
/-! ### all, any, sum -/
def asBs : List D → Option (List Bool)
  | [] => some []
  | x :: xs => (asB x).bind fun b => (asBs xs).map fun bs => b :: bs
theorem asBs_ok {K : PySem.W.Frag} {H : Hp} {O : Addr → Prop} : ∀ {vs : List V} {ds : List D} {bs : List Bool}, Reps K H O vs ds → asBs ds = some bs → vs = bs.map V.bl
  | _, _, _, .nil, e => by simp [asBs] at e; subst e; rfl
  | _, _, _, .cons r t, e => by
    simp only [asBs, Option.bind_eq_some_iff, Option.map_eq_some_iff] at e
    obtain ⟨b, e1, bs, e2, e3⟩ := e
    subst e3
    have : _ := asBs_ok t e2
    subst this
    unfold asB at e1
    split at e1
    · cases e1; cases r; rfl
    · cases e1
def asIs : List D → Option (List Int)
  | [] => some []
  | x :: xs => (asI x).bind fun b => (asIs xs).map fun bs => b :: bs
theorem asIs_ok {K : PySem.W.Frag} {H : Hp} {O : Addr → Prop} : ∀ {vs : List V} {ds : List D} {bs : List Int}, Reps K H O vs ds → asIs ds = some bs → vs = bs.map V.int
  | _, _, _, .nil, e => by simp [asIs] at e; subst e; rfl
  | _, _, _, .cons r t, e => by
    simp only [asIs, Option.bind_eq_some_iff, Option.map_eq_some_iff] at e
    obtain ⟨b, e1, bs, e2, e3⟩ := e
    subst e3
    have : _ := asIs_ok t e2
    subst this
    unfold asI at e1
    split at e1
    · cases e1; cases r; rfl
    · cases e1
def asSs : List D → Option (List Str)
  | [] => some []
  | .str x :: xs => (asSs xs).map fun bs => x :: bs
  | _ => none
theorem asSs_ok {K : PySem.W.Frag} {H : Hp} {O : Addr → Prop} : ∀ {vs : List V} {ds : List D} {bs : List Str}, Reps K H O vs ds → asSs ds = some bs → vs = bs.map V.str
  | _, _, _, .nil, e => by simp [asSs] at e; subst e; rfl
  | _, d :: _, _, .cons r t, e => by
    cases d with
    | str x =>
      simp only [asSs, Option.map_eq_some_iff] at e
      obtain ⟨bs, e2, e3⟩ := e
      subst e3
      have : _ := asSs_ok t e2
      subst this
      cases r; rfl
    | _ => simp [asSs] at e
def dAll : List D → Option D
  | [.lst xs] => (asBs xs).map fun bs => .bl (bs.all id)
  | _ => none
theorem c_all {K : PySem.W.Frag} : Cl1 K (rAll K) dAll := by
  intro H O vs ds Q dm rs q
  unfold dAll at q
  split at q
  · rename_i xs
    obtain ⟨v, rfl, r⟩ := rs.one
    obtain ⟨a, us, rfl, h, z, r2⟩ := r.lst
    cases e : asBs xs with
    | none => rw [e] at q; exact q.elim
    | some bs =>
      rw [e] at q
      have := asBs_ok r2 e
      subst this
      exact ⟨a, bs, rfl, h, q _ H (Same.refl H) (.bl _)⟩
  · exact q.elim
def dAny : List D → Option D
  | [.lst xs] => (asBs xs).map fun bs => .bl (bs.any id)
  | _ => none
theorem c_any {K : PySem.W.Frag} : Cl1 K (rAny K) dAny := by
  intro H O vs ds Q dm rs q
  unfold dAny at q
  split at q
  · rename_i xs
    obtain ⟨v, rfl, r⟩ := rs.one
    obtain ⟨a, us, rfl, h, z, r2⟩ := r.lst
    cases e : asBs xs with
    | none => rw [e] at q; exact q.elim
    | some bs =>
      rw [e] at q
      have := asBs_ok r2 e
      subst this
      exact ⟨a, bs, rfl, h, q _ H (Same.refl H) (.bl _)⟩
  · exact q.elim
def dSum : List D → Option D
  | [.lst xs] => (asIs xs).map fun bs => .int bs.sum
  | _ => none
theorem c_sum {K : PySem.W.Frag} : Cl1 K (rSum K) dSum := by
  intro H O vs ds Q dm rs q
  unfold dSum at q
  split at q
  · rename_i xs
    obtain ⟨v, rfl, r⟩ := rs.one
    obtain ⟨a, us, rfl, h, z, r2⟩ := r.lst
    cases e : asIs xs with
    | none => rw [e] at q; exact q.elim
    | some bs =>
      rw [e] at q
      have := asIs_ok r2 e
      subst this
      exact ⟨a, bs, rfl, h, q _ H (Same.refl H) (.int _)⟩
  · exact q.elim
/-! ### ''.join -/
def dJoin : D → D → Option D
  | .str a, .lst xs => (asSs xs).bind fun ys => if (ys.map (·.length)).sum + ys.length * a.length ≤ 16777216 then some (.str (Txt.join a ys)) else none
  | _, _ => none
def rJoin (K : PySem.W.Frag) : V → List V → Hp → VK → Prop := fun x xs H Q => ∃ a p, ∃ ys : List Str, x = .str a ∧ xs = [.ref p] ∧ (SqL K H p (ys.map V.str) ∨ SqT K H p (ys.map V.str)) ∧
    (ys.map (·.length)).sum + ys.length * a.length ≤ 16777216 ∧ Q (.str (Txt.join a ys)) H
theorem m_join {K : PySem.W.Frag} : Mt1 K (rJoin K) dJoin := by
  intro H O x y dx dy Q dm rx ry q
  unfold dJoin at q
  split at q
  · rename_i a xs
    obtain ⟨p, us, rfl, h, z, r2⟩ := ry.lst
    cases e : asSs xs with
    | none => rw [e] at q; exact q.elim
    | some ys =>
      rw [e] at q
      have q' : VP K H O Q (if (ys.map (·.length)).sum + ys.length * a.length ≤ 16777216 then some (.str (Txt.join a ys)) else none) := q
      have := asSs_ok r2 e
      subst this
      by_cases c : (ys.map (·.length)).sum + ys.length * a.length ≤ 16777216
      · rw [if_pos c] at q'
        exact ⟨a, p, ys, rx.str, rfl, .inl h, c, q' _ H (Same.refl H) (.str _)⟩
      · rw [if_neg c] at q'; exact q'.elim
  · exact q.elim
/-! ### isinstance of built-in types -/
def tyName : D → Option String
  | .non => some "NoneType"
  | .bl _ => some "bool"
  | .int _ => some "int"
  | .str _ => some "str"
  | .tup _ => some "tuple"
  | .lst _ => some "list"
  | .kl _ => some "list"
  | _ => none
def isi (t n : String) : Bool := t == n || (t == "bool" && n == "int")
def dIsi : List D → Option D
  | [x, .ty n] => (tyName x).bind fun t => if n = "int" ∨ n = "bool" ∨ n = "str" ∨ n = "tuple" ∨ n = "list" then some (.bl (isi t n)) else none
  | _ => none
theorem kit_isi {t n : String} (ht : t = "NoneType" ∨ t = "bool" ∨ t = "int" ∨ t = "str" ∨ t = "tuple" ∨ t = "list") (hn : n = "int" ∨ n = "bool" ∨ n = "str" ∨ n = "tuple" ∨ n = "list") : kitB t n = some (isi t n) := by
  rcases ht with rfl | rfl | rfl | rfl | rfl | rfl <;> rcases hn with rfl | rfl | rfl | rfl | rfl <;> decide +kernel
theorem tyName_ok {K : PySem.W.Frag} {H : Hp} {O : Addr → Prop} {v : V} {d : D} {t : String} (r : RepB K H O v d) (e : tyName d = some t) :
    TyX K H v (.type t) ∧ (t = "NoneType" ∨ t = "bool" ∨ t = "int" ∨ t = "str" ∨ t = "tuple" ∨ t = "list") := by
  unfold tyName at e
  split at e <;> cases e
  · rw [r.non]; exact ⟨.base .non, by simp⟩
  · rw [r.bl]; exact ⟨.base (.bl _), by simp⟩
  · rw [r.int]; exact ⟨.base (.int _), by simp⟩
  · rw [r.str]; exact ⟨.base (.str _), by simp⟩
  · obtain ⟨a, us, rfl, h, z, r2⟩ := r.tup
    refine ⟨?_, by simp⟩
    rcases h with (h | ⟨o, h⟩) | ⟨o, its, n, h1, h2, _⟩
    · exact .base (.tup h)
    · exact .fTuple h
    · exact .kTuple h1 h2
  · obtain ⟨a, us, rfl, h, z, r2⟩ := r.lst
    refine ⟨?_, by simp⟩
    rcases h with (h | ⟨o, h⟩) | ⟨o, its, n, h1, h2, _⟩
    · exact .base (.lst h)
    · exact .base (.frz h)
    · exact .kList h1 h2
  · obtain ⟨a, us, rfl, h, z, r2⟩ := r.kl
    refine ⟨?_, by simp⟩
    rcases h with (h | ⟨o, h⟩) | ⟨o, its, n, h1, h2, _⟩
    · exact .base (.lst h)
    · exact .base (.frz h)
    · exact .kList h1 h2
theorem c_isi {K : PySem.W.Frag} : Cl1 K (rIsi K) dIsi := by
  intro H O vs ds Q dm rs q
  unfold dIsi at q
  split at q
  · rename_i x n
    obtain ⟨v, u, rfl, r, r2⟩ := rs.two
    cases e : tyName x with
    | none => rw [e] at q; exact q.elim
    | some t =>
      rw [e] at q
      have q' : VP K H O Q (if n = "int" ∨ n = "bool" ∨ n = "str" ∨ n = "tuple" ∨ n = "list" then some (.bl (isi t n)) else none) := q
      by_cases c : n = "int" ∨ n = "bool" ∨ n = "str" ∨ n = "tuple" ∨ n = "list"
      · rw [if_pos c] at q'
        obtain ⟨h1, h2⟩ := tyName_ok r e
        exact ⟨v, u, _, _, _, rfl, by rw [r2.ty]; exact .ty n, h1, kit_ty (kit_isi h2 c), q' _ H (Same.refl H) (.bl _)⟩
      · rw [if_neg c] at q'; exact q'.elim
  · exact q.elim
end PP

namespace PP
open PySem PySem.Spec PyProof.Rows L2
open Res (ok exc bad)
/-! ### several except clauses, with names or without -/
/-- behind a clause's suite its name is gone -/
def goneD (D : Ends) (i : Nat) : Ends := { nx := fun σ' H' => D.nx (σ'.set i none) H', rt := D.rt, bk := fun σ' H' => D.bk (σ'.set i none) H', ct := fun σ' H' => D.ct (σ'.set i none) H' }
def wAll (K : PySem.W.Frag) (Wout : WX) (D : Ends) : List (Value × Option Nat × (Addr → Value → Option Addr → TS)) → WX
  | [] => Wout
  | (c, none, ts) :: r => fun cls d σ H => ∃ b, PySem.W.exmOne K cls c = some b ∧ (b = true → ∀ a, H a = none → ts a cls d D σ H) ∧ (b = false → wAll K Wout D r cls d σ H)
  | (c, some i, ts) :: r => fun cls d σ H => ∃ b, PySem.W.exmOne K cls c = some b ∧ (b = true → ∀ a, H a = none → ts a cls d (goneD D i) (σ.set i (some (.ref a))) H) ∧ (b = false → wAll K Wout D r cls d σ H)
inductive HdsA (X : Cx) : List ExceptHandler → List (Value × Option Nat × (Addr → Value → Option Addr → TS)) → Prop
  | nil : HdsA X [] []
  | one {x : Str} {c : Value} {ts : Addr → Value → Option Addr → TS} {b₀ : Stmt} {suite : List Stmt} {np pos' : Pos} {hds : List ExceptHandler} {l : List (Value × Option Nat × (Addr → Value → Option Addr → TS))} (hc : Names X x c)
      (hsu : ∀ (a : Addr) (oe : Obj) (cls : Value) (d : Option Addr) (pn : List (Addr × Obj)), Zc cls d oe → (∃ vs, oe.data = .fields vs) → PSs (X.suite a ((a, oe) :: pn)) (b₀ :: suite) (ts a cls d)) (r : HdsA X hds l) :
      HdsA X (.ExceptHandler (some (.Name x np)) none (b₀ :: suite) pos' :: hds) ((c, none, ts) :: l)
  | as {x n : Str} {i : Nat} {c : Value} {ts : Addr → Value → Option Addr → TS} {b₀ : Stmt} {suite : List Stmt} {np pos' : Pos} {hds : List ExceptHandler} {l : List (Value × Option Nat × (Addr → Value → Option Addr → TS))} (hc : Names X x c) (hN : X.N.Nodup) (hi : X.N[i]? = some n) (hln : X.env.kindOf n = some .local)
      (hsu : ∀ (a : Addr) (oe : Obj) (cls : Value) (d : Option Addr) (pn : List (Addr × Obj)), Zc cls d oe → (∃ vs, oe.data = .fields vs) → PSs (X.suite a ((a, oe) :: pn)) (b₀ :: suite) (ts a cls d)) (r : HdsA X hds l) :
      HdsA X (.ExceptHandler (some (.Name x np)) (some n) (b₀ :: suite) pos' :: hds) ((c, some i, ts) :: l)
section
variable {X : Cx} {body : List Stmt} {h₀ : ExceptHandler} {hds : List ExceptHandler} {l : List (Value × Option Nat × (Addr → Value → Option Addr → TS))} {pos : Pos} {tb : WX → TS} {Wout : WX}
theorem ps_try_all (hs : X.stack = X.env :: X.outer) (hf : X.env.frame = some X.env.locals) (tk : Takes X Wout)
    (hb : ∀ (W : WX) (pn : List (Addr × Obj)) (xe : Value → Shared → Prop), Takes (X.tr pn xe) W → PassesOwn (model X.prog X.w) X.A X.env xe → PSs (X.tr pn xe) body (tb W))
    (hh : HdsA X (h₀ :: hds) l) : PS X (.Try body (h₀ :: hds) [] [] pos) (fun D σ H => tb (wAll X.K Wout D l) D σ H) := by
  refine ⟨fun pins s σ H D I h => ?_⟩
  have ok := I.ok
  have hfr : X.A.frames = some (X.env :: X.outer) := by rw [ok.frames, hs]
  refine wpAny_Try_except ?_
  refine wpAny_mono ((hb (wAll X.K Wout D l) (X.pn ++ pins) (fun e s₁ => wpAny (model X.prog X.w) X.A (noteFrame e X.env) (fun _ s₂ => wpAny (model X.prog X.w) X.A (setFlight e none) (fun _ s₃ =>
    wpAny (model X.prog X.w) X.A (handleBy e X.env (h₀ :: hds)) (SP X pins D) X.xe s₃) X.xe s₂) X.xe s₁) (fun u s' xx => ?_) PassesOwn.looking).run [] s σ H D (I.toTry _) h) (fun f s1 hsp => ?_) (fun e s1 he => he)
  · -- the catch
    obtain ⟨a, B, sI, pins', σ', H', cls, d, rfl, J', nb, up, sky, na, os, ag, w⟩ := xx
    have J : Inv X pins σ' H' sI := J'.ofTry ok
    have sky' : Sky B (X.env :: X.outer) a (Zc cls d) X.env.locals s'.heap := by rw [← hs]; exact sky
    show wpAny (model X.prog X.w) X.A (noteFrame (.ref a) X.env) _ _ _
    refine Sky.land Zc.steady hfr hf sky' fun h3 fl3 up3 => ?_
    have J3 : Inv X pins σ' H' { s' with heap := h3 } := J.landed nb fl3.1 (up.trans up3) os ag
    obtain ⟨oe3, vs3, he3, hz3, hd3⟩ := fl3.there
    have notFr : ∀ {h : Heap} {o : Obj} {vs : Array Value}, h.FunFrames B (X.env :: X.outer) → h.get? a = some o → o.data = .fields vs → a ∉ frs (X.env :: X.outer) := fun {h o vs} ff e dd hm => by
      obtain ⟨_, o', e', hnf⟩ := ff.mem hm
      rw [e] at e'; cases e'
      exact hnf _ dd
    have nfr := notFr fl3.2.2.1 he3 hd3
    have nL : a ≠ X.env.locals := fun z => nfr (List.mem_filterMap.mpr ⟨X.env, List.mem_cons_self, by rw [hf, z]⟩)
    have nF : a ∉ X.fs := fun hm => by
      obtain ⟨e, he, q⟩ := List.mem_filterMap.mp hm
      exact nfr (List.mem_filterMap.mpr ⟨e, List.mem_cons_of_mem _ he, q⟩)
    have S3 := J3.suite he3 hd3 na nL nF
    have LT : PySem.W.Looks (model X.prog X.w) h3 (typeOf (.ref a)) cls := fun A Q E s k q => wpAny_typeOf_ref (k _ _ he3) (by rw [hz3.1]; exact q)
    have test : ∀ {x : Str} {c : Value} {np : Pos} {Q : Value → Shared → Prop} {E : Value → Shared → Prop}, Names X x c → Q c { s' with heap := h3 } → wpAny (model X.prog X.w) (X.A.mark (some (.ref a))) (eval (.Name x np) X.env) Q E { s' with heap := h3 } := fun {x c np Q E} hc q => by
      obtain ⟨hg, hdbg, hm | ⟨hm, hv, hnn⟩⟩ := hc
      · exact ld_glob (X := X.suite a ((a, oe3) :: (X.pn ++ pins))) S3 hg hm q hdbg
      · exact ld_blt (X := X.suite a ((a, oe3) :: (X.pn ++ pins))) S3 hg hm hv q hnn hdbg
    have go : ∀ {hds' : List ExceptHandler} {l' : List (Value × Option Nat × (Addr → Value → Option Addr → TS))}, HdsA X hds' l' → wAll X.K Wout D l' cls d σ' H' →
        wpAny (model X.prog X.w) X.A (handleBy (.ref a) X.env hds') (SP X pins D) X.xe { s' with heap := h3 } := by
      intro hds' l' hk
      induction hk with
      | nil =>
        intro w
        refine wpAny_handleBy_nil ?_
        obtain ⟨k1, k2, k3, oe, vs, T, oT, ts', he, hz, hd, h1, hr⟩ := id fl3
        unfold PySem.passOn
        refine wpAny_bind (wpAny_field he hd h1 ?_)
        rw [if_neg (show ¬ ((Value.ref T == Value.none) = true) from by simp)]
        have fin : wpAny (model X.prog X.w) X.A (setFlight (.ref a) X.env.frame) (fun _ s4 => wpAny (model X.prog X.w) X.A (throw (.ref a) : Sem Flow) (SP X pins D) X.xe s4) X.xe { s' with heap := h3 } := by
          rw [hf]
          refine HandSPX.setFlight_upZ fl3 fun h4 hh4 up4 => wpAny_throw (tk _ _ ?_)
          exact ⟨a, B, sI, pins, σ', H', cls, d, rfl, J, nb, (up.trans up3).trans up4, .inr (.inr (by rw [hs]; exact hh4)), na, os, ag, w⟩
        first
          | exact wpAny_bind (wpAny_pure (wpAny_bind fin))
          | exact wpAny_bind fin
      | @one x c ts b₀ suite np pos' hds2 l2 hc hsu r ih =>
        intro w
        obtain ⟨b, hb1, hyes, hno⟩ := w
        refine wpAny_handleBy_cons (codeAny_handlers_test ?_) (by intro q; cases q)
        have LM := PySem.W.exm_one (M := model X.prog X.w) (J3.kIn) LT hb1
        refine test hc (LM.here ?_)
        cases b with
        | true =>
          refine codeAny_handlers_suite ?_
          refine HandSPX.lands_againZ fl3 fun h4 fl4 up4 => ?_
          have J4 : Inv X pins σ' H' { s' with heap := h4 } := J.landed nb fl4.1 ((up.trans up3).trans up4) os ag
          obtain ⟨oe4, vs4, he4, hz4, hd4⟩ := fl4.there
          have S4 := J4.suite he4 hd4 na nL nF
          refine wpAny_mono ((hsu a oe4 cls d (X.pn ++ pins) hz4 ⟨_, hd4⟩).run [] _ _ H' _ S4 (hyes rfl a na)) (fun f s6 hsp => ?_) (fun _ _ z => False.elim z)
          cases f with
          | next =>
            obtain ⟨σ6, H6, S6, q6⟩ := hsp
            exact ⟨_, _, S6.unsuite ok, q6⟩
          | brk =>
            obtain ⟨σ6, H6, S6, q6⟩ := hsp
            exact ⟨_, _, S6.unsuite ok, q6⟩
          | cont =>
            obtain ⟨σ6, H6, S6, q6⟩ := hsp
            exact ⟨_, _, S6.unsuite ok, q6⟩
          | ret u =>
            obtain ⟨v6, σ6, H6, S6, r6, q6⟩ := hsp
            exact ⟨_, _, _, S6.unsuite ok, r6, q6⟩
        | false =>
          show wpAny _ X.A (handleBy (.ref a) X.env hds2) _ _ _
          exact ih (hno rfl)
      | @as x n i c ts b₀ suite np pos' hds2 l2 hc hN hi hln hsu r ih =>
        intro w
        obtain ⟨b, hb1, hyes, hno⟩ := w
        refine wpAny_handleBy_cons (codeAny_handlers_test ?_) (by intro q; cases q)
        have LM := PySem.W.exm_one (M := model X.prog X.w) (J3.kIn) LT hb1
        refine test hc (LM.here ?_)
        cases b with
        | true =>
          refine codeAny_handlers_suite_as ?_
          refine HandSPX.lands_againZ fl3 fun h4 fl4 up4 => ?_
          have J4 : Inv X pins σ' H' { s' with heap := h4 } := J.landed nb fl4.1 ((up.trans up3).trans up4) os ag
          obtain ⟨oe4, vs4, he4, hz4, hd4⟩ := fl4.there
          have S4 := J4.suite he4 hd4 na nL nF
          refine store_ok (X := X.suite a ((a, oe4) :: (X.pn ++ pins))) (v := .ref a) S4 hN hi (.inl hln) rfl (fun s5 S5 => ?_) (.inr hln)
          refine wpAny_mono ((hsu a oe4 cls d (X.pn ++ pins) hz4 ⟨_, hd4⟩).run [] s5 _ H' _ S5 (hyes rfl a na)) (fun f s6 hsp => ?_) (fun _ _ z => False.elim z)
          have end_ : ∀ {σ6 : L2.St} {H6 : Hp} {Q : Shared → Prop}, Inv (X.suite a ((a, oe4) :: (X.pn ++ pins))) [] σ6 H6 s6 → (∀ s7, Inv X pins (σ6.set i none) H6 s7 → Q s7) →
              wpAny (model X.prog X.w) X.A (do bindName X.env n .none; unbindBehindTheSuite X.env n pos') (fun _ s7 => Q s7) X.xe s6 := fun {σ6 H6 Q} S6 hq => gone_ok (S6.unsuite ok) hN hi hln hq
          cases f with
          | next =>
            obtain ⟨σ6, H6, S6, q6⟩ := hsp
            exact end_ S6 fun s7 J7 => ⟨_, _, J7, q6⟩
          | brk =>
            obtain ⟨σ6, H6, S6, q6⟩ := hsp
            exact end_ S6 fun s7 J7 => ⟨_, _, J7, q6⟩
          | cont =>
            obtain ⟨σ6, H6, S6, q6⟩ := hsp
            exact end_ S6 fun s7 J7 => ⟨_, _, J7, q6⟩
          | ret u =>
            obtain ⟨v6, σ6, H6, S6, r6, q6⟩ := hsp
            exact end_ S6 fun s7 J7 => ⟨_, _, _, J7, r6, q6⟩
        | false =>
          show wpAny _ X.A (handleBy (.ref a) X.env hds2) _ _ _
          exact ih (hno rfl)
    exact go hh w
  · cases f with
    | next =>
      obtain ⟨σ', H', J', q⟩ := hsp
      exact wpAny_execs_nil ⟨σ', H', J'.ofTry ok, q⟩
    | brk =>
      obtain ⟨σ', H', J', q⟩ := hsp
      exact ⟨σ', H', J'.ofTry ok, q⟩
    | cont =>
      obtain ⟨σ', H', J', q⟩ := hsp
      exact ⟨σ', H', J'.ofTry ok, q⟩
    | ret u =>
      obtain ⟨v, σ', H', J', r, q⟩ := hsp
      exact ⟨v, σ', H', J'.ofTry ok, r, q⟩
end

/-! ### the same by what they do -/
/-- a clause: the class that it names, its name's slot, what its suite does when an error of the class c is met -/
structure Cl where
  cls : Str
  slot : Option Nat
  su : Str → Sls → Fl
def clIn (i : Option Nat) (ρ : Sls) : Sls := match i with
  | some i => ρ.set i .no
  | none => ρ
def clOut (i : Option Nat) (fl : Fl) : Fl := match i, fl with
  | some i, .nx ρ => .nx (ρ.set i .no)
  | some i, .bk ρ => .bk (ρ.set i .no)
  | some i, .ct ρ => .ct (ρ.set i .no)
  | some _, .rt d => .rt d
  | none, .nx ρ => .nx ρ
  | none, .bk ρ => .bk ρ
  | none, .ct ρ => .ct ρ
  | none, .rt d => .rt d
  | _, _ => .bad
def hdl (sub : Str → Str → Bool) : List Cl → Str → Sls → Fl
  | [], c, ρ => .exc c ρ
  | k :: r, c, ρ => if sub c k.cls then clOut k.slot (k.su c (clIn k.slot ρ)) else hdl sub r c ρ
def sTry (cs : List Str) (sub : Str → Str → Bool) (body : Sls → Fl) (hs : List Cl) : Sls → Fl := fun ρ => match body ρ with
  | .exc c ρ' => if c ∈ cs then hdl sub hs c ρ' else .bad
  | fl => fl
/-- what the written part says of a class that an except clause names -/
def ExmOk (K : PySem.W.Frag) (cs : List Str) (sub : Str → Str → Bool) (A : Str) : Prop := ∀ c ∈ cs, PySem.W.exmOne K (.ref (He.ga K c)) (.ref (He.ga K A)) = some (sub c A)
/-- a suite's reading: the error's class, where it stands -/
def tSu (K : PySem.W.Frag) (cs : List Str) (i : Option Nat) (su : Str → Sls → Fl) : Addr → Value → Option Addr → TS := fun a cls d D σ H =>
  ∃ c, cls = .ref (He.ga K c) ∧ d = none ∧ c ∈ cs ∧ (∀ j, i = some j → j < σ.length → σ[j]? = some (some (.ref a))) ∧ tSS K E0' (su c) D σ H
inductive HdsS (X : Cx) (cs : List Str) (sub : Str → Str → Bool) : List ExceptHandler → List Cl → Prop
  | nil : HdsS X cs sub [] []
  | one {A : Str} {su : Str → Sls → Fl} {b₀ : Stmt} {suite : List Stmt} {np pos' : Pos} {hds : List ExceptHandler} {l : List Cl} (hc : Names X A (.ref (He.ga X.K A))) (hx : ExmOk X.K cs sub A)
      (hsu : ∀ (a : Addr) (oe : Obj) (cls : Value) (d : Option Addr) (pn : List (Addr × Obj)), Zc cls d oe → (∃ vs, oe.data = .fields vs) → PSs (X.suite a ((a, oe) :: pn)) (b₀ :: suite) (tSu X.K cs none su a cls d)) (r : HdsS X cs sub hds l) :
      HdsS X cs sub (.ExceptHandler (some (.Name A np)) none (b₀ :: suite) pos' :: hds) (⟨A, none, su⟩ :: l)
  | as {A n : Str} {i : Nat} {su : Str → Sls → Fl} {b₀ : Stmt} {suite : List Stmt} {np pos' : Pos} {hds : List ExceptHandler} {l : List Cl} (hc : Names X A (.ref (He.ga X.K A))) (hx : ExmOk X.K cs sub A) (hN : X.N.Nodup) (hi : X.N[i]? = some n) (hln : X.env.kindOf n = some .local)
      (hsu : ∀ (a : Addr) (oe : Obj) (cls : Value) (d : Option Addr) (pn : List (Addr × Obj)), Zc cls d oe → (∃ vs, oe.data = .fields vs) → PSs (X.suite a ((a, oe) :: pn)) (b₀ :: suite) (tSu X.K cs (some i) su a cls d)) (r : HdsS X cs sub hds l) :
      HdsS X cs sub (.ExceptHandler (some (.Name A np)) (some n) (b₀ :: suite) pos' :: hds) (⟨A, some i, su⟩ :: l)
def toA (K : PySem.W.Frag) (cs : List Str) (k : Cl) : Value × Option Nat × (Addr → Value → Option Addr → TS) := (.ref (He.ga K k.cls), k.slot, tSu K cs k.slot k.su)
theorem HdsS.a {X : Cx} {cs : List Str} {sub : Str → Str → Bool} {hds : List ExceptHandler} {l : List Cl} (h : HdsS X cs sub hds l) : HdsA X hds (l.map (toA X.K cs)) := by
  induction h with
  | nil => exact .nil
  | one hc hx hsu r ih => exact .one hc hsu ih
  | as hc hx hN hi hln hsu r ih => exact .as hc hN hi hln hsu ih
theorem HdsS.ex {X : Cx} {cs : List Str} {sub : Str → Str → Bool} {hds : List ExceptHandler} {l : List Cl} (h : HdsS X cs sub hds l) : ∀ k ∈ l, ExmOk X.K cs sub k.cls := by
  induction h with
  | nil => intro k hk; simp at hk
  | one hc hx hsu r ih => intro k hk; rcases List.mem_cons.mp hk with e | hk; (subst e; exact hx); exact ih k hk
  | as hc hx hN hi hln hsu r ih => intro k hk; rcases List.mem_cons.mp hk with e | hk; (subst e; exact hx); exact ih k hk
theorem Sta.no {K : PySem.W.Frag} {H : Hp} {O : Addr → Prop} {σ : L2.St} {ρ : Sls} {F : List Addr} (s : Sta K H O σ ρ F) (i : Nat) (x : Option V) : ∃ F', Sta K H O (σ.set i x) (ρ.set i .no) F' ∧ ∀ a ∈ F', a ∈ F :=
  let ⟨F', h1, h2⟩ := s.st.setN i x; ⟨F', ⟨h1, s.dom⟩, h2⟩
section
variable {X : Cx} {E : EX} {cs : List Str} {sub : Str → Str → Bool} {body : List Stmt} {h₀ : ExceptHandler} {hds : List ExceptHandler} {l : List Cl} {pos : Pos} {s1 : Sls → Fl}
theorem hdl_reads {D' : Ends} {c : Str} {H' : Hp} {O' : Addr → Prop} {F' : List Addr} {σ' : L2.St} {ρ' : Sls} (hc : c ∈ cs) : ∀ {l : List Cl}, (∀ k ∈ l, ExmOk X.K cs sub k.cls) → Sta X.K H' O' σ' ρ' F' → FP X.K E D' H' O' F' (hdl sub l c ρ') →
    wAll X.K (fun cls d σ H => E σ cls d H) D' (l.map (toA X.K cs)) (.ref (He.ga X.K c)) none σ' H'
  | [], _, s, p => p σ' H' O' F' s .refl
  | ⟨A, none, su⟩ :: l, hx, s, p => by
    refine ⟨sub c A, hx ⟨A, none, su⟩ (by simp) c hc, fun e a na => ?_, fun e => hdl_reads hc (fun k hk => hx k (by simp [hk])) s ?_⟩
    · refine ⟨c, rfl, rfl, hc, fun j z => (nomatch z), ρ', O', F', s, ?_⟩
      have p' : FP X.K E D' H' O' F' (if sub c A then clOut none (su c (clIn none ρ')) else hdl sub l c ρ') := p
      rw [if_pos e] at p'
      have p2 : FP X.K E D' H' O' F' (clOut none (su c ρ')) := p'
      show FP X.K E0' D' H' O' F' (su c ρ')
      cases q : su c ρ' with
      | nx ρ2 => rw [q] at p2; exact p2
      | rt d => rw [q] at p2; exact p2
      | bk ρ2 => rw [q] at p2; exact p2
      | ct ρ2 => rw [q] at p2; exact p2
      | exc c2 ρ2 => rw [q] at p2; exact p2.elim
      | bad => rw [q] at p2; exact p2.elim
    · have p' : FP X.K E D' H' O' F' (if sub c A then clOut none (su c (clIn none ρ')) else hdl sub l c ρ') := p
      rw [if_neg (by rw [e]; exact Bool.false_ne_true)] at p'
      exact p'
  | ⟨A, some i, su⟩ :: l, hx, s, p => by
    refine ⟨sub c A, hx ⟨A, some i, su⟩ (by simp) c hc, fun e a na => ?_, fun e => hdl_reads hc (fun k hk => hx k (by simp [hk])) s ?_⟩
    · obtain ⟨F2, s2, sub2⟩ := s.no i (some (.ref a))
      refine ⟨c, rfl, rfl, hc, fun j z hj => by cases z; rw [List.length_set] at hj; exact List.getElem?_set_self hj, ρ'.set i .no, O', F2, s2, ?_⟩
      have p' : FP X.K E D' H' O' F' (if sub c A then clOut (some i) (su c (clIn (some i) ρ')) else hdl sub l c ρ') := p
      rw [if_pos e] at p'
      have p2 : FP X.K E D' H' O' F' (clOut (some i) (su c (ρ'.set i .no))) := p'
      have tr : Tr H' O' F' H' O' F2 := .sub sub2 (Same.refl _)
      show FP X.K E0' (goneD D' i) H' O' F2 (su c (ρ'.set i .no))
      cases q : su c (ρ'.set i .no) with
      | nx ρ2 =>
        rw [q] at p2
        intro σ3 H3 O3 F3 s3 t3
        obtain ⟨F4, s4, sub4⟩ := s3.no i none
        exact p2 _ H3 O3 F4 s4 ((tr.trans s t3).trans s (.sub sub4 (Same.refl _)))
      | rt d => rw [q] at p2; exact fun v H3 O3 F3 r3 t3 => p2 v H3 O3 F3 r3 (tr.trans s t3)
      | bk ρ2 =>
        rw [q] at p2
        intro σ3 H3 O3 F3 s3 t3
        obtain ⟨F4, s4, sub4⟩ := s3.no i none
        exact p2 _ H3 O3 F4 s4 ((tr.trans s t3).trans s (.sub sub4 (Same.refl _)))
      | ct ρ2 =>
        rw [q] at p2
        intro σ3 H3 O3 F3 s3 t3
        obtain ⟨F4, s4, sub4⟩ := s3.no i none
        exact p2 _ H3 O3 F4 s4 ((tr.trans s t3).trans s (.sub sub4 (Same.refl _)))
      | exc c2 ρ2 => rw [q] at p2; exact p2.elim
      | bad => rw [q] at p2; exact p2.elim
    · have p' : FP X.K E D' H' O' F' (if sub c A then clOut (some i) (su c (clIn (some i) ρ')) else hdl sub l c ρ') := p
      rw [if_neg (by rw [e]; exact Bool.false_ne_true)] at p'
      exact p'
theorem ss_try (hs : X.stack = X.env :: X.outer) (hf : X.env.frame = some X.env.locals) (tk : Takes X fun cls d σ H => E σ cls d H)
    (hb : ∀ (W : WX) (pn : List (Addr × Obj)) (xe : Value → Shared → Prop), Takes (X.tr pn xe) W → PassesOwn (model X.prog X.w) X.A X.env xe → SSs (X.tr pn xe) (fun σ cls d H => W cls d σ H) body s1)
    (hh : HdsS X cs sub (h₀ :: hds) l) : SS X E (.Try body (h₀ :: hds) [] [] pos) (sTry cs sub s1 l) :=
  ps_imp (ps_try_all (tb := fun W => tSS X.K (fun σ cls d H => W cls d σ H) s1) hs hf tk hb hh.a) fun D σ H ⟨ρ, O, F, s, p⟩ => ⟨ρ, O, F, s, by
    unfold sTry at p
    cases q : s1 ρ with
    | nx ρ' => rw [q] at p; exact p
    | rt d => rw [q] at p; exact p
    | bk ρ' => rw [q] at p; exact p
    | ct ρ' => rw [q] at p; exact p
    | bad => rw [q] at p; exact p
    | exc c ρ' =>
      rw [q] at p
      intro σ' H' O' F' s' t
      have p' : FP X.K E D H O F (if c ∈ cs then hdl sub l c ρ' else .bad) := p
      by_cases hc : c ∈ cs
      · rw [if_pos hc] at p'
        exact hdl_reads hc hh.ex s' (FP.later s t p')
      · rw [if_neg hc] at p'; exact p'.elim⟩
end
/-! ### suites: return of what isinstance(e, C) tells -/
/-- what is known of the error within the suite -/
abbrev At (j : Nat) (a : Addr) (σ : L2.St) : Prop := σ[j]? = some (some (.ref a))
def tEX (K : PySem.W.Frag) (j : Nat) (a : Addr) (f : Sls → Res D) : TE := fun σ H Q => At j a σ ∧ tEF K E0' f σ H Q
def tTX (K : PySem.W.Frag) (j : Nat) (a : Addr) (b : Bool) : TT := fun σ H Q => At j a σ ∧ Q b H
/-- what the written part says of isinstance(e, C), e of the class c -/
def IsiOk (K : PySem.W.Frag) (cs : List Str) (sub : Str → Str → Bool) (C : Str) : Prop := ∀ c ∈ cs, ExcC K (He.ga K c) ∧ PySem.W.kitOne K (.ref (He.ga K c)) (.ref (He.ga K C)) = some (sub c C)
section
variable {X : Cx} {a : Addr} {oe : Obj} {pn : List (Addr × Obj)} {cs : List Str} {sub : Str → Str → Bool} {c C x : Str} {j : Nat} {p1 p2 p3 pos : Pos} {A B : Expr} {f g : Sls → Res D}
theorem px_isE (hk : IsiOk X.K cs sub C) (hc : c ∈ cs) (hz : Zc (.ref (He.ga X.K c)) none oe) (hf : ∃ vs, oe.data = .fields vs) (hm : X.mg "isinstance" = none) (hC : X.mg C = some (.ref (He.ga X.K C))) (hg : Gl X "isinstance" := by rfl) (hgC : Gl X C := by rfl)
    (hN : X.N[j]? = some x := by rfl) (hv : Vis X.env.scope x := by first | exact Or.inl rfl | exact Or.inr (Or.inl rfl) | exact Or.inr (Or.inr rfl)) (hd : (x == ("__debug__" : Str)) = false := by decide) (hcd : (x == ("__classdict__" : Str)) = false := by decide) (hdC : (C == ("__debug__" : Str)) = false := by decide)
    (h1 : starEach [.Name x p2, .Name C p3] X.env = (false, eval (.Name x p2) X.env) :: starEach [.Name C p3] X.env := by rfl) (h2 : starEach [.Name C p3] X.env = (false, eval (.Name C p3) X.env) :: starEach [] X.env := by rfl) (hpl : (backTo pos (starEach [.Name C p3] X.env)).any (·.1) = false := by rfl) :
    PE (X.suite a ((a, oe) :: pn)) (.Call (.Name "isinstance" p1) [.Name x p2, .Name C p3] [] pos) (fun σ H Q => At j a σ ∧ Q (.bl (sub c C)) H) := by
  refine pe_imp (pe_callB (X := X.suite a ((a, oe) :: pn)) (call_isE (hk c hc).1 hz hf) hg hm (by decide +kernel) (pa_cons (pe_var (i := j) hN hv hd hcd) (pa_cons (pe_glob (v := .ref (He.ga X.K C)) hgC hC rfl hdC) pa_nil h2) h1) (by decide) (by decide) h1 hpl) fun σ H Q ⟨e, q⟩ => ?_
  exact ⟨_, e, .ref (He.ga X.K C), .ref (He.ga X.K C), _, rfl, fun u r => r, (hk c hc).2, q⟩
theorem pt_isE (h : PE (X.suite a ((a, oe) :: pn)) A (fun σ H Q => At j a σ ∧ Q (.bl (sub c C)) H)) (he : ∀ whole, isTrue A X.env whole = (do let v ← whole; standAt A.pos; holding [v] (truthy v)) := by intro _; rfl) : PT (X.suite a ((a, oe) :: pn)) A (tTX X.K j a (sub c C)) :=
  pt_imp (pt_val h he) fun σ H Q ⟨e, q⟩ => ⟨e, _, rfl, q⟩
theorem px_of (h : EF (X.suite a ((a, oe) :: pn)) E0' A f) : PE (X.suite a ((a, oe) :: pn)) A (tEX X.K j a f) := pe_imp h fun σ H Q ⟨_, q⟩ => q
theorem px_val (h : PE (X.suite a ((a, oe) :: pn)) A (fun σ H Q => At j a σ ∧ Q (.bl (sub c C)) H)) : PE (X.suite a ((a, oe) :: pn)) A (tEX X.K j a (mC (.bl (sub c C)))) :=
  pe_imp h fun σ H Q ⟨e, ρ, O, F, s, p⟩ => ⟨e, p _ H (Same.refl H) (.bl _)⟩
theorem px_if {T : Expr} {b : Bool} (hc : PT (X.suite a ((a, oe) :: pn)) T (tTX X.K j a b)) (ha : PE (X.suite a ((a, oe) :: pn)) A (tEX X.K j a f)) (hb : PE (X.suite a ((a, oe) :: pn)) B (tEX X.K j a g)) :
    PE (X.suite a ((a, oe) :: pn)) (.IfExp T A B pos) (tEX X.K j a (if b then f else g)) :=
  pe_imp (pe_ifExp hc ha hb) fun σ H Q ⟨e, q⟩ => ⟨e, by
    cases b with
    | true => exact iteT ⟨e, q⟩
    | false => exact iteF ⟨e, q⟩⟩
theorem su_ret {i : Option Nat} {su : Str → Sls → Res D} {cls : Value} {d : Option Addr} (hi : ∀ σ : L2.St, (∀ k, i = some k → k < σ.length → σ[k]? = some (some (.ref a))) → σ.length = X.N.length → At j a σ)
    (h : ∀ c ∈ cs, cls = .ref (He.ga X.K c) → d = none → PE (X.suite a ((a, oe) :: pn)) A (tEX X.K j a (su c))) : PSs (X.suite a ((a, oe) :: pn)) [.Return (some A) pos] (tSu X.K cs i (fun c => sRet (su c)) a cls d) := by
  refine ⟨fun pins s σ H D I ⟨c, e1, e2, hc, e3, ρ, O, F, st, p⟩ => ?_⟩
  have hAt : At j a σ := hi σ e3 I.len
  refine (pss_one (ps_ret (h c hc e1 e2))).run pins s σ H D I ⟨hAt, ρ, O, F, st, (FP.po st p).imp fun x p1 v H1 e1 r1 => p1 v H1 O F r1 (.same e1)⟩
/-- .. where the error is not asked -/
theorem su_any {i : Option Nat} {su : Sls → Fl} {sts : List Stmt} {cls : Value} {d : Option Addr} (h : SSs (X.suite a ((a, oe) :: pn)) E0' sts su) : PSs (X.suite a ((a, oe) :: pn)) sts (tSu X.K cs i (fun _ => su) a cls d) :=
  pss_imp h fun D σ H ⟨c, _, _, _, _, q⟩ => q
end
end PP

namespace PP
open PySem PySem.Spec PyProof.Rows L2
open Res (ok exc bad)
/-! ### a table of the module's top: text keys -/
structure KTab (K : PySem.W.Frag) (w : World) (x : Str) (tbl : List (Str × D)) : Prop where
  kd : ∃ es n, KDict K w (He.ga K x) es n
  yes : ∀ z d, tbl.lookup z = some d → ∃ u v, PySem.W.nsIn K (He.ga K x) z = some (some u) ∧ RelV v u ∧ ∀ H O, Rep K H O v d
  no : ∀ z, tbl.lookup z = none → PySem.W.nsIn K (He.ga K x) z = some none
section
variable {X : Cx} {E : EX} {e : Expr} {f : Sls → Res D} {x : Str} {tbl : List (Str × D)} {pos p1 : Pos}
def mKIn (tbl : List (Str × D)) (f : Sls → Res D) : Sls → Res D := fun ρ => f ρ >>= fun d => match d with
  | .str z => ok (.bl (tbl.lookup z).isSome)
  | _ => bad
def mKNotIn (tbl : List (Str × D)) (f : Sls → Res D) : Sls → Res D := fun ρ => f ρ >>= fun d => match d with
  | .str z => ok (.bl (!(tbl.lookup z).isSome))
  | _ => bad
def mKGet (tbl : List (Str × D)) (f : Sls → Res D) : Sls → Res D := fun ρ => f ρ >>= fun d => match d with
  | .str z => ofO (tbl.lookup z)
  | _ => bad
theorem ktab_is {K : PySem.W.Frag} {w : World} (T : KTab K w x tbl) (z : Str) : ∃ r, PySem.W.nsIn K (He.ga K x) z = some r ∧ r.isSome = (tbl.lookup z).isSome := by
  cases q : tbl.lookup z with
  | none => exact ⟨none, T.no z q, rfl⟩
  | some d =>
    obtain ⟨u, v, h1, _⟩ := T.yes z d q
    exact ⟨some u, h1, rfl⟩
theorem ef_kin (T : KTab X.K X.w x tbl) (hm : X.mg x = some (.ref (He.ga X.K x))) (ha : EF X E e f) (hg : Gl X x := by rfl) (hd : (x == ("__debug__" : Str)) = false := by decide) (hb : behindInMarks .In (.Name x p1) = false := by rfl) : EF X E (.Compare e [.In] [.Name x p1] pos) (mKIn tbl f) := by
  obtain ⟨es, n, kd⟩ := T.kd
  exact pe_imp (pe_cmpR (op_in_kd kd) ha (pe_glob (v := .ref (He.ga X.K x)) hg hm rfl hd) hb) fun σ H Q ⟨ρ, O, F, s, p⟩ => ⟨ρ, O, F, s, p.bind.imp fun d p1 v H1 e1 r1 => by
    cases d with
    | str z =>
      cases r1
      obtain ⟨r, h1, h2⟩ := ktab_is T z
      exact ⟨z, r, rfl, rfl, h1, by rw [h2]; exact p1 _ H1 e1 (.bl _)⟩
    | _ => exact p1.elim⟩
theorem ef_knotin (T : KTab X.K X.w x tbl) (hm : X.mg x = some (.ref (He.ga X.K x))) (ha : EF X E e f) (hg : Gl X x := by rfl) (hd : (x == ("__debug__" : Str)) = false := by decide) (hb : behindInMarks .NotIn (.Name x p1) = false := by rfl) : EF X E (.Compare e [.NotIn] [.Name x p1] pos) (mKNotIn tbl f) := by
  obtain ⟨es, n, kd⟩ := T.kd
  exact pe_imp (pe_cmpR (op_notIn_kd kd) ha (pe_glob (v := .ref (He.ga X.K x)) hg hm rfl hd) hb) fun σ H Q ⟨ρ, O, F, s, p⟩ => ⟨ρ, O, F, s, p.bind.imp fun d p1 v H1 e1 r1 => by
    cases d with
    | str z =>
      cases r1
      obtain ⟨r, h1, h2⟩ := ktab_is T z
      exact ⟨z, r, rfl, rfl, h1, by rw [h2]; exact p1 _ H1 e1 (.bl _)⟩
    | _ => exact p1.elim⟩
theorem et_kin (T : KTab X.K X.w x tbl) (hm : X.mg x = some (.ref (He.ga X.K x))) (ha : EF X E e f) (hg : Gl X x := by rfl) (hd : (x == ("__debug__" : Str)) = false := by decide) (hb : behindInMarks .In (.Name x p1) = false := by rfl) : ET X E (.Compare e [.In] [.Name x p1] pos) (mT (mKIn tbl f)) := by
  obtain ⟨es, n, kd⟩ := T.kd
  exact pt_imp (pt_cmpR (op_in_kd kd) ha (pe_glob (v := .ref (He.ga X.K x)) hg hm rfl hd) hb) fun σ H Q ⟨ρ, O, F, s, p⟩ => ⟨ρ, O, F, s, by
    have p' : Po X.K E σ H (f ρ >>= fun d => (match d with
      | .str z => ok (.bl (tbl.lookup z).isSome)
      | _ => bad) >>= fun x => ofO (asB x)) fun b => ∀ H', Same H H' → Q b H' := by
      have p0 : Po X.K E σ H ((f ρ >>= fun d => match d with
        | .str z => ok (.bl (tbl.lookup z).isSome)
        | _ => bad) >>= fun x => ofO (asB x)) fun b => ∀ H', Same H H' → Q b H' := p
      rw [res_assoc] at p0
      exact p0
    refine p'.bind.imp fun d p1 v H1 e1 r1 => ?_
    cases d with
    | str z =>
      cases r1
      obtain ⟨r, h1, h2⟩ := ktab_is T z
      exact ⟨z, r, rfl, rfl, h1, _, rfl, by rw [h2]; exact p1 H1 e1⟩
    | _ => exact p1.elim⟩
theorem et_knotin (T : KTab X.K X.w x tbl) (hm : X.mg x = some (.ref (He.ga X.K x))) (ha : EF X E e f) (hg : Gl X x := by rfl) (hd : (x == ("__debug__" : Str)) = false := by decide) (hb : behindInMarks .NotIn (.Name x p1) = false := by rfl) : ET X E (.Compare e [.NotIn] [.Name x p1] pos) (mT (mKNotIn tbl f)) := by
  obtain ⟨es, n, kd⟩ := T.kd
  exact pt_imp (pt_cmpR (op_notIn_kd kd) ha (pe_glob (v := .ref (He.ga X.K x)) hg hm rfl hd) hb) fun σ H Q ⟨ρ, O, F, s, p⟩ => ⟨ρ, O, F, s, by
    have p' : Po X.K E σ H (f ρ >>= fun d => (match d with
      | .str z => ok (.bl (!(tbl.lookup z).isSome))
      | _ => bad) >>= fun x => ofO (asB x)) fun b => ∀ H', Same H H' → Q b H' := by
      have p0 : Po X.K E σ H ((f ρ >>= fun d => match d with
        | .str z => ok (.bl (!(tbl.lookup z).isSome))
        | _ => bad) >>= fun x => ofO (asB x)) fun b => ∀ H', Same H H' → Q b H' := p
      rw [res_assoc] at p0
      exact p0
    refine p'.bind.imp fun d p1 v H1 e1 r1 => ?_
    cases d with
    | str z =>
      cases r1
      obtain ⟨r, h1, h2⟩ := ktab_is T z
      exact ⟨z, r, rfl, rfl, h1, _, rfl, by rw [h2]; exact p1 H1 e1⟩
    | _ => exact p1.elim⟩
theorem ef_kget (T : KTab X.K X.w x tbl) (hm : X.mg x = some (.ref (He.ga X.K x))) (ha : EF X E e f) (hg : Gl X x := by rfl) (hd : (x == ("__debug__" : Str)) = false := by decide) (hs : PlainIx e := by exact fun _ _ => rfl) : EF X E (.Subscript (.Name x p1) e pos) (mKGet tbl f) := by
  obtain ⟨es, n, kd⟩ := T.kd
  exact pe_imp (pe_ix ix_kdict (pe_glob (v := .ref (He.ga X.K x)) hg hm rfl hd) ha hs) fun σ H Q ⟨ρ, O, F, s, p⟩ => ⟨ρ, O, F, s, p.bind.imp fun d p1 v H1 e1 r1 => by
    cases d with
    | str z =>
      cases r1
      have p1' : Po X.K E σ H (ofO (tbl.lookup z)) fun d => ∀ v H', Same H H' → Rep X.K H' O v d → Q v H' := p1
      cases q : tbl.lookup z with
      | none => rw [q] at p1'; exact p1'.elim
      | some d =>
        rw [q] at p1'
        obtain ⟨u, v, h1, h2, h3⟩ := T.yes z d q
        exact ⟨_, z, v, rfl, rfl, ⟨es, n, u, kd.at_, kd.lit, h1, h2⟩, p1' v H1 e1 (h3 H1 O)⟩
    | _ => exact p1.elim⟩
end
/-! ### {'a': .., ..}[e], the display read at once -/
def mPairs : List (Str × (Sls → Res D)) → Sls → Res (List (Str × D))
  | [], _ => ok []
  | (k, f) :: r, ρ => f ρ >>= fun d => mPairs r ρ >>= fun l => ok ((k, d) :: l)
/-- the last one counts -/
def lookLast (l : List (Str × D)) (z : Str) : Option D := l.reverse.lookup z
def mDispGet (l : List (Str × (Sls → Res D))) (f : Sls → Res D) : Sls → Res D := fun ρ => mPairs l ρ >>= fun kvs => f ρ >>= fun d => match d with
  | .str z => ofO (lookLast kvs z)
  | _ => bad
section
variable {X : Cx} {E : EX} {e : Expr} {f : Sls → Res D} {pos p1 : Pos}
/-- the pairs of a display -/
inductive EPs (X : Cx) (E : EX) : List (Option Expr) → List Expr → List (Str × (Sls → Res D)) → Prop
  | nil : EPs X E [] [] []
  | cons {k : Str} {j : Nat} {pk : Pos} {v : Expr} {g : Sls → Res D} {ks : List (Option Expr)} {vs : List Expr} {l : List (Str × (Sls → Res D))} (hv : EF X E v g) (r : EPs X E ks vs l) : EPs X E (some (.Constant (.str k) j pk) :: ks) (v :: vs) ((k, g) :: l)
def trsOf (K : PySem.W.Frag) (E : EX) (l : List (Str × (Sls → Res D))) : List (TE × TE) := l.map fun p => (tC (.str p.1), tEF K E p.2)
theorem EPs.pps {keys : List (Option Expr)} {values : List Expr} {l : List (Str × (Sls → Res D))} (h : EPs X E keys values l) : PPs X pos keys values (trsOf X.K E l) := by
  induction h with
  | nil => exact pps_nil
  | cons hv r ih => exact pps_cons pe_str hv ih
theorem EPs.len {keys : List (Option Expr)} {values : List Expr} {l : List (Str × (Sls → Res D))} (h : EPs X E keys values l) : keys.length = values.length ∧ keys.all (·.isSome) = true := by
  induction h with
  | nil => exact ⟨rfl, rfl⟩
  | cons hv r ih => exact ⟨by simp [ih.1], by simpa using ih.2⟩
theorem mergeK_look : ∀ (kvs acc : List (Key × V)) (z : Str), valV (mergeK acc kvs) (.inr z) = (match (kvs.reverse.find? fun kv => decide (kv.1 = .inr z)) with
  | some p => some p.2
  | none => valV acc (.inr z))
  | [], acc, z => by simp [mergeK]
  | p :: r, acc, z => by
    have ih := mergeK_look r (putK acc p.1 p.2) z
    show valV (mergeK (putK acc p.1 p.2) r) (.inr z) = _
    rw [ih, List.reverse_cons, List.find?_append]
    cases q : r.reverse.find? fun kv => decide (kv.1 = (.inr z : Key)) with
    | some p' => simp
    | none =>
      rw [valV_put]
      by_cases e : p.1 = (.inr z : Key)
      · simp [e]
      · have e' : ¬ (.inr z : Key) = p.1 := fun h => e h.symm
        simp [e, e']
theorem pairs_go {σ : L2.St} {O : Addr → Prop} {ρ : Sls} {F : List Addr} : ∀ {l : List (Str × (Sls → Res D))} {H : Hp} {kvs : List (Str × D)} {R : List (V × V) → Hp → Prop}, Sta X.K H O σ ρ F → mPairs l ρ = ok kvs →
    (∀ (ps : List (Key × V)) H', Same H H' → Paired (fun (p : Key × V) (q : Str × D) => p.1 = .inr q.1 ∧ Rep X.K H' O p.2 q.2) ps kvs → R (ps.map fun kv => (kV kv.1, kv.2)) H') → tPairs (trsOf X.K E l) σ H R
  | [], H, kvs, R, s, e, k => by
    cases e
    exact k [] H (Same.refl H) .nil
  | (x, g) :: l, H, kvs, R, s, e, k => by
    have e' : (g ρ >>= fun d => mPairs l ρ >>= fun l => ok ((x, d) :: l)) = ok kvs := e
    obtain ⟨d, h1, e2⟩ := Res.bind_ok e'
    obtain ⟨kr, h2, e3⟩ := Res.bind_ok e2
    cases e3
    refine ⟨ρ, O, F, s, ?_⟩
    show Po X.K E σ H (g ρ) _
    rw [h1]
    intro v H1 e1 r1
    refine pairs_go (s.same e1) h2 fun ps H2 e12 rs => ?_
    exact k ((.inr x, v) :: ps) H2 (e1.trans e12) (.cons ⟨rfl, r1.same e12⟩ rs)
theorem paired_find {H : Hp} {O : Addr → Prop} : ∀ {ps : List (Key × V)} {kvs : List (Str × D)} {z : Str} {d : D}, Paired (fun (p : Key × V) (q : Str × D) => p.1 = .inr q.1 ∧ Rep X.K H O p.2 q.2) ps kvs → kvs.lookup z = some d → ∃ p, (ps.find? fun kv => decide (kv.1 = (.inr z : Key))) = some p ∧ Rep X.K H O p.2 d
  | _, _, _, _, .nil, e => by simp at e
  | (k, v) :: ps, (x, d') :: kvs, z, d, .cons ⟨h1, h2⟩ t, e => by
    simp only at h1 h2
    subst h1
    rw [List.lookup_cons] at e
    rw [List.find?_cons]
    by_cases c : x = z
    · subst c
      simp at e
      subst e
      exact ⟨(.inr x, v), by simp, h2⟩
    · have c1 : (z == x) = false := by simpa using fun h => c h.symm
      have c2 : (decide ((.inr x : Key) = .inr z)) = false := decide_eq_false fun h => c (Sum.inr.inj h)
      rw [c1] at e
      simp only [c2]
      exact paired_find t e
theorem Paired.rev {α β : Type} {R : α → β → Prop} {xs : List α} {ys : List β} (h : Paired R xs ys) : Paired R xs.reverse ys.reverse := by
  induction h with
  | nil => exact .nil
  | cons r t ih => rw [List.reverse_cons, List.reverse_cons]; exact Paired.snoc ih r
theorem Paired.len {α β : Type} {R : α → β → Prop} {xs : List α} {ys : List β} (h : Paired R xs ys) : xs.length = ys.length := by
  induction h with
  | nil => rfl
  | cons r t ih => simp [ih]
theorem mPairs_len : ∀ {l : List (Str × (Sls → Res D))} {ρ : Sls} {kvs : List (Str × D)}, mPairs l ρ = ok kvs → kvs.length = l.length
  | [], _, _, e => by cases e; rfl
  | (x, g) :: l, ρ, kvs, e => by
    have e' : (g ρ >>= fun d => mPairs l ρ >>= fun l => ok ((x, d) :: l)) = ok kvs := e
    obtain ⟨d, h1, e2⟩ := Res.bind_ok e'
    obtain ⟨kr, h2, e3⟩ := Res.bind_ok e2
    cases e3
    simp [mPairs_len h2]
theorem Rep.updO {K : PySem.W.Frag} {H : Hp} {O : Addr → Prop} {p : Addr} {o : HO} {v : V} {d : D} (n : ¬ O p) (r : Rep K H (Ad O p) v d) (ht : NoTup H p) : Rep K (L2.upd H p o) O v d := (Rep.upd (O := Ad O p) (.inr rfl) ht r).less fun _ z => .inl z
theorem ef_dispget {keys : List (Option Expr)} {values : List Expr} {l : List (Str × (Sls → Res D))} (hu : X.A.units + 1 < cLine) (h : EPs X E keys values l) (he : EF X E e f) (hx : ∀ ρ c, mPairs l ρ ≠ exc c) (h0 : keys ≠ [] := by exact fun z => (nomatch z)) (h15 : l.length ≤ 15 := by decide) (hs : NoSl e := by exact fun _ _ => rfl) :
    EF X E (.Subscript (.Dict keys values p1) e pos) (mDispGet l f) := by
  have hk : ∀ {keys : List (Option Expr)} {values : List Expr} {l : List (Str × (Sls → Res D))}, EPs X E keys values l → keys.length = l.length := fun h => by
    induction h with
    | nil => rfl
    | cons _ _ ih => simp [ih]
  refine pe_imp (pe_dget hu (pe_disp (h.pps (pos := p1)) h.len.2 h.len.1 h0 (by rw [hk h]; exact h15)) he hs) fun σ H Q ⟨ρ, O, F, s, p⟩ => ?_
  intro a na
  have p' : Po X.K E σ H (mPairs l ρ >>= fun kvs => f ρ >>= fun d => match d with
    | .str z => ofO (lookLast kvs z)
    | _ => bad) fun d => ∀ v H', Same H H' → Rep X.K H' O v d → Q v H' := p
  cases ek : mPairs l ρ with
  | exc c => exact (hx ρ c ek).elim
  | bad => rw [ek] at p'; exact p'.elim
  | ok kvs =>
    rw [ek] at p'
    have nO : ¬ O a := fun h => (s.dom a h).1 na
    have s1 : Sta X.K (upd H a (.dK [])) (Ad O a) σ ρ F := s.add (same_new na) na (by rw [upd_same]; exact fun z => (nomatch z)) (fun ys r => by rcases r with r | ⟨o, r⟩ <;> (rw [upd_same] at r; cases r))
    refine pairs_go s1 ek fun ps H2 e2 rs => ?_
    have hH2 : H2 a = some (.dK []) := e2 a _ upd_same
    have nt : NoTup H2 a := fun ys r => by rcases r with r | ⟨o, r⟩ <;> (rw [hH2] at r; cases r)
    have hl : ps.length ≤ 15 := by rw [Paired.len rs, mPairs_len ek]; exact h15
    refine ⟨hH2, ps, rfl, hl, ?_⟩
    -- the dict stands; the key
    have same3 : Same H (upd H2 a (.dK (mergeK [] ps))) := fun b o hb => by
      have hba : b ≠ a := fun z => by subst z; rw [na] at hb; cases hb
      rw [upd_ne hba]
      exact e2 b o (same_new na b o hb)
    refine ⟨ρ, O, F, s.same same3, ((show Po X.K E σ H (f ρ >>= fun d => match d with
      | .str z => ofO (lookLast kvs z)
      | _ => bad) _ from p').bind.imp fun d p2 v H4 e4 r4 => ?_).later same3⟩
    cases d with
    | str z =>
      cases r4
      have p3 : Po X.K E σ H (ofO (lookLast kvs z)) fun d => ∀ v H', Same H H' → Rep X.K H' O v d → Q v H' := p2
      cases q : lookLast kvs z with
      | none => rw [q] at p3; exact p3.elim
      | some d =>
        rw [q] at p3
        obtain ⟨pv, h1, h2⟩ := paired_find (Paired.rev rs) q
        have hv : valV (mergeK [] ps) (.inr z) = some pv.2 := by rw [mergeK_look, h1]
        have h4 : H4 a = some (.dK (mergeK [] ps)) := e4 a _ upd_same
        refine ⟨a, pv.2, rfl, ?_, p3 _ H4 (same3.trans e4) ((h2.updO nO nt).same e4)⟩
        rw [← hv]
        exact DGet.k (k := .inr z) h4
    | _ => exact p2.elim
end
end PP

namespace PP
open PySem PySem.Spec PyProof.Rows L2
open Res (ok exc bad)
/-! ### x[::-1] of a text, a list, a tuple -/
def revS (z : Str) : Str := ⟨z.cps.toList.reverse.toArray⟩
theorem revS_length (z : Str) : (revS z).length = z.length := by
  show (z.cps.toList.reverse.toArray).size = z.cps.size
  simp
theorem rev_picked (z : Str) : (Builtin.Str.strSliceIndices none none (-1) z.length).filterMap (z.cps[·]?) = z.cps.toList.reverse := by
  have e : Builtin.Str.strSliceIndices none none (-1) z.length = sliceRange ((z.length : Int) - 1) (-1) (-1) := by
    unfold Builtin.Str.strSliceIndices
    rfl
  have e2 : z.length = z.cps.size := rfl
  rw [e, e2, PySem.W.krv_sliceRange, PySem.W.krv_range, List.filterMap_reverse, PySem.W.krv_all]
def tRevS (te : TE) : TE := fun σ H Q => te σ H fun x H1 => ∃ z, x = .str z ∧ z.length ≤ sizeLine ∧ Q (.str (revS z)) H1
section
variable {X : Cx}
theorem pe_revS {e : Expr} {te : TE} {k : Nat} {p1 p2 p3 pos : Pos} (he : PE X e te) : PE X (.Subscript e (.Slice none none (some (.UnaryOp .USub (.Constant (.int 1) k p1) p2)) p3) pos) (tRevS te) := by
  refine ⟨fun pins s σ H Q I h => ?_⟩
  refine Subscript_ (thn (he.run pins s σ H _ I h) fun v s1 ⟨x, H1, I1, r1, q1⟩ => ?_)
  obtain ⟨z, ex, hz, q⟩ := q1
  subst ex
  obtain ⟨t, rfl⟩ := r1
  have hst : PO X (some (.UnaryOp .USub (.Constant (.int 1) k p1) p2)) (tPart (tUn (rU fun i => .int (-i)) (tC (.int 1)))) := po_some (pe_un un_neg pe_int)
  refine wpAny_Slice (thn (po_none.run pins s1 σ H1 (fun o H2 => o = none ∧ H2 = H1) I1 ⟨rfl, rfl⟩) fun vl s2 ⟨l, H2, I2, pl, el, e2⟩ => ?_)
  subst el e2
  refine thn (po_none.run pins s2 σ H2 (fun o H3 => o = none ∧ H3 = H2) I2 ⟨rfl, rfl⟩) fun vu s3 ⟨u, H3, I3, pu, eu, e3⟩ => ?_
  subst eu e3
  refine thn (hst.run pins s3 σ H3 (fun o H4 => o = some (-1) ∧ H4 = H3) I3 ⟨1, rfl, -1, rfl, rfl, rfl⟩) fun vs s4 ⟨o, H4, I4, ps, eo, e4⟩ => ?_
  subst eo e4
  have I5 : Inv X pins σ H4 { s4 with heap := s4.heap.push { cls := .type "slice", data := .fields #[vl, vu, vs] } } := I4.kept (t' := s4.toks) fun b ob q => Heap.get?_push_of_some _ q
  obtain ⟨l', e1, e1'⟩ := IsPart.raw pl
  obtain ⟨u', e3, e3'⟩ := IsPart.raw pu
  obtain ⟨w', e5, e5'⟩ := IsPart.raw ps
  show wpAny (model X.prog X.w) X.A (subscriptTail e (.Slice none none (some (.UnaryOp .USub (.Constant (.int 1) k p1) p2)) p3) (.str z t) (.ref s4.heap.objs.size)) (EP X pins σ Q) X.xe { s4 with heap := s4.heap.push { cls := .type "slice", data := .fields #[vl, vu, vs] } }
  refine tail_any (ops := [.str z t, .ref s4.heap.objs.size]) (typeIs_str _ _ _) (F.slot_str_getitem.lookup) ?_ (by with_unfolding_all rfl)
  have el : l' = none := by cases l' with | none => rfl | some q => cases e1'
  have eu : u' = none := by cases u' with | none => rfl | some q => cases e3'
  have hw : (w'.map (·.1)).getD 1 = -1 := by rw [e5']; rfl
  refine wpAny_getItem_str_slice (l := l') (u := u') (st := w') ⟨_, Heap.get?_push_size _ rfl, rfl, by rw [← e1, ← e3, ← e5]⟩ (by rw [hw]; rfl) ?_
  unfold sliceMade slicePicked
  rw [hw, el, eu, if_neg (by simp)]
  show Made.post (Made.str ⟨((Builtin.Str.strSliceIndices none none (-1) z.length).filterMap (z.cps[·]?)).toArray⟩) _ _
  rw [rev_picked]
  exact ⟨by show (revS z).length ≤ sizeLine; rw [revS_length]; exact hz, .str _, H4, I5.tok _, ⟨_, rfl⟩, q⟩
end
section
variable {X : Cx} {E : EX} {e : Expr} {f : Sls → Res D}
def dRevS : D → Option D
  | .str z => if z.length ≤ sizeLine then some (.str (revS z)) else none
  | _ => none
theorem ef_revS {k : Nat} {p1 p2 p3 pos : Pos} (he : EB X E e f) : EF X E (.Subscript e (.Slice none none (some (.UnaryOp .USub (.Constant (.int 1) k p1) p2)) p3) pos) (mOp1 dRevS f) :=
  pe_imp (pe_revS he) fun σ H Q ⟨ρ, O, F, s, p⟩ => ⟨ρ, O, F, s, p.bind.imp fun d p1 v H1 e1 r1 => by
    cases d with
    | str z =>
      have p2 : VP X.K H1 O Q (if z.length ≤ sizeLine then some (.str (revS z)) else none) := p1.vp e1
      by_cases c : z.length ≤ sizeLine
      · rw [if_pos c] at p2; exact ⟨z, r1.str, c, p2 _ H1 (Same.refl _) (.str _)⟩
      · rw [if_neg c] at p2; exact p2.elim
    | _ => exact p1.elim⟩
def dRevL : D → Option D
  | .lst xs => some (.lst xs.reverse)
  | .kl xs => some (.lst xs.reverse)
  | _ => none
theorem reps_rev {K : PySem.W.Frag} {H : Hp} {O : Addr → Prop} : ∀ {vs : List V} {ds : List D}, Reps K H O vs ds → Reps K H O vs.reverse ds.reverse
  | _, _, .nil => .nil
  | _, _, .cons r t => by rw [List.reverse_cons, List.reverse_cons]; exact (reps_rev t).snoc r
theorem en_revL {k : Nat} {p1 p2 p3 pos : Pos} (he : EB X E e f) : EN X E (.Subscript e (.Slice none none (some (.UnaryOp .USub (.Constant (.int 1) k p1) p2)) p3) pos) (mOp1 dRevL f) :=
  pe_imp (pe_revL he) fun σ H Q ⟨ρ, O, F, s, p⟩ => ⟨ρ, O, F, s, p.bind.imp fun d p1 v H1 e1 r1 => by
    cases d with
    | lst xs =>
      have p2 : VN X.K H1 O Q (dRevL (.lst xs)) := p1.vn e1
      obtain ⟨a, vs, rfl, h1, z, r⟩ := r1.lst
      exact ⟨a, vs, rfl, h1, fun p n => p2 _ p _ (same_new n) n (.newL n (by rw [List.length_reverse]; exact z) (reps_rev r))⟩
    | kl xs =>
      have p2 : VN X.K H1 O Q (dRevL (.kl xs)) := p1.vn e1
      obtain ⟨a, vs, rfl, h1, z, r⟩ := r1.kl
      exact ⟨a, vs, rfl, h1, fun p n => p2 _ p _ (same_new n) n (.newL n (by rw [List.length_reverse]; exact z) (reps_rev r))⟩
    | _ => exact p1.elim⟩
/-- raise C('..') -/
structure RaOk (X : Cx) (c : Str) : Prop where
  q : PySem.W.excIn X.K (He.ga X.K c) [.type "ValueError", .type "Exception", .type "BaseException", .type "object"] "ValueError.__new__" = true
  g : X.mg c = some (.ref (He.ga X.K c))
  k : PySem.W.keepIn X.K (.ref (He.ga X.K c)) = true
  s : PySem.W.subIn X.K (.ref (He.ga X.K c)) (.type "BaseException") = some true
  t : PySem.W.typeIn X.K (.ref (He.ga X.K c)) = some (.type "type")
theorem ss_raiseE {c m : Str} {j : Nat} {p p2 pos pos2 : Pos} (hc : X.calm = true) (tk : Takes X fun cls d σ H => E σ cls d H) (R : RaOk X c) (hg : Gl X c := by rfl) (hdb : (c == ("__debug__" : Str)) = false := by decide) :
    SS X E (.Raise (some (.Call (.Name c p) [.Constant (.str m) j p2] [] pos)) none pos2) (sRaise c) :=
  ss_raise hc tk (pmk_own PySem.F.excBase_ValueError R.q R.g R.k (raises_own R.s R.t) hg hdb) fun _ _ _ _ h => h
end
end PP

namespace PP
open PySem PySem.Spec PyProof.Rows L2
open Res (ok exc bad)
/-! ### -e -/
def dNeg : D → Option D
  | .int i => some (.int (-i))
  | _ => none
theorem ef_neg {X : Cx} {E : EX} {e : Expr} {f : Sls → Res D} {pos : Pos} (he : EB X E e f) : EF X E (.UnaryOp .USub e pos) (mOp1 dNeg f) :=
  pe_imp (pe_un un_neg he) fun σ H Q ⟨ρ, O, F, s, p⟩ => ⟨ρ, O, F, s, p.bind.imp fun d p1 v H1 e1 r1 => by
    cases d with
    | int i => cases r1.int; exact ⟨i, rfl, p1 _ _ e1 (.int _)⟩
    | _ => exact p1.elim⟩
/-! ### tables of the top -/
def sB : D → Value → Bool
  | .int i, .int j _ => decide (i = j)
  | .str x, .str y _ => decide (x = y)
  | .non, .none => true
  | .bl b, .bool c => b == c
  | _, _ => false
def sBs : List D → List Value → Bool
  | [], [] => true
  | d :: ds, u :: us => sB d u && sBs ds us
  | _, _ => false
def tB (K : PySem.W.Frag) : D → Value → Bool
  | .tup ds, .ref a => (match K.lookup a with
    | some ⟨.type c, _, .seq its _, _⟩ => decide (c = "tuple") && (decide (its.size ≤ sizeLine) && sBs ds its.toList)
    | _ => false)
  | d, u => sB d u
def vOf : D → V
  | .int i => .int i
  | .str x => .str x
  | .bl b => .bl b
  | _ => .non
theorem sB_ok {K : PySem.W.Frag} {d : D} {u : Value} (h : sB d u = true) : RelV (vOf d) u ∧ ∀ H O, Rep K H O (vOf d) d := by
  cases d <;> cases u <;> first | (exact absurd (show false = true from h) (by decide)) | skip
  · exact ⟨rfl, fun _ _ => .non⟩
  · have e := eq_of_beq (show (_ == _) = true from h); subst e; exact ⟨rfl, fun _ _ => .bl _⟩
  · have e := of_decide_eq_true h; subst e; exact ⟨⟨_, rfl⟩, fun _ _ => .int _⟩
  · have e := of_decide_eq_true h; subst e; exact ⟨⟨_, rfl⟩, fun _ _ => .str _⟩
theorem sBs_ok {K : PySem.W.Frag} : ∀ {ds : List D} {us : List Value}, sBs ds us = true → Vals (ds.map vOf) us ∧ ∀ H O, Reps K H O (ds.map vOf) ds
  | [], [], _ => ⟨.nil, fun _ _ => .nil⟩
  | [], _ :: _, h => by cases h
  | _ :: _, [], h => by cases h
  | d :: ds, u :: us, h => by
    obtain ⟨h1, h2⟩ := He.ba (show (sB d u && sBs ds us) = true from h)
    obtain ⟨a1, a2⟩ := sB_ok (K := K) h1
    obtain ⟨b1, b2⟩ := sBs_ok (K := K) h2
    exact ⟨.cons a1 b1, fun H O => .cons (a2 H O) (b2 H O)⟩
theorem tB_ok {K : PySem.W.Frag} {d : D} {u : Value} (h : tB K d u = true) : ∃ v, RelV v u ∧ ∀ H O, Rep K H O v d := by
  unfold tB at h
  split at h
  · rename_i ds a
    split at h
    · rename_i c od its n sl q
      obtain ⟨h1, h2⟩ := He.ba h
      obtain ⟨h3, h4⟩ := He.ba h2
      obtain ⟨b1, b2⟩ := sBs_ok (K := K) h4
      have h5 := of_decide_eq_true h3
      refine ⟨.ref a, rfl, fun H O => .tup (.inr ⟨_, its, n, q, congrArg Value.type (of_decide_eq_true h1), rfl, h5, b1⟩) ?_ (b2 H O)⟩
      rw [b1.length]
      simpa using h5
    · cases h
  · exact ⟨_, sB_ok (K := K) h⟩
def tblB (x : Str) (tbl : List (Str × D)) (K : PySem.W.Frag) : Bool := tbl.all fun q => match PySem.W.nsIn K (He.ga K x) q.1 with
  | some (some u) => tB K q.2 u
  | _ => false
theorem keys_find {P : Params} {z : Str} : ∀ {l : List DictEntry} {ks : List Str}, l.map He.keyOf = He.keysIn P ks → z ∉ ks → l.find? (fun e => e.key.isStr z) = none ∧ l.any (fun e => e.refKey) = false
  | [], _, _, _ => ⟨rfl, rfl⟩
  | e :: r, [], h, _ => by cases h
  | e :: r, k :: ks, h, hz => by
    have h1 : He.keyOf e :: r.map He.keyOf = some (k, PyData.keyHash P k) :: He.keysIn P ks := h
    injection h1 with h2 h3
    obtain ⟨i1, i2⟩ := keys_find (P := P) h3 (fun q => hz (List.mem_cons_of_mem _ q))
    unfold He.keyOf at h2
    split at h2
    · rename_i x t q
      have h4 := Option.some.inj h2
      obtain ⟨h5, h6⟩ := Prod.mk.inj h4
      have e1 : e.key.isStr z = false := by
        rw [q]
        show (x == z) = false
        rw [h5]
        simpa using fun w => hz (by rw [w]; simp)
      have e2 : e.refKey = false := by
        unfold DictEntry.refKey
        rw [q]
      exact ⟨by rw [List.find?_cons, e1]; exact i1, by rw [List.any_cons, e2]; exact i2⟩
    · cases h2
theorem nsIn_no {K : PySem.W.Frag} {w : World} {a : Addr} {ks : List Str} {z : Str} (h : He.dicW K a = some (He.keysIn w.params ks)) (hz : z ∉ ks) : PySem.W.nsIn K a z = some none := by
  unfold He.dicW at h
  cases q : K.lookup a with
  | none =>
    rw [q] at h
    cases h
  | some o =>
    obtain ⟨oc, od, dt, osl⟩ := o
    rw [q] at h
    cases oc with
    | type c =>
      cases od with
      | none =>
        cases dt with
        | dict es n =>
          have h1 : (match decide (c = "dict") && (osl.isEmpty && !(a == sysModules)) with
            | true => some (es.toList.map He.keyOf)
            | false => none) = some (He.keysIn w.params ks) := h
          split at h1
          · obtain ⟨i1, i2⟩ := keys_find (Option.some.inj h1) hz
            unfold PySem.W.nsIn
            rw [q]
            show (match es.toList.find? (·.key.isStr z) with
              | some e => some (some e.val)
              | none => if es.toList.any (·.refKey) then none else some none) = some none
            rw [i1]
            show (if es.toList.any (·.refKey) then none else some none) = some none
            rw [i2]
            rfl
          · cases h1
        | _ => cases h
      | some b => cases dt <;> cases h
    | _ => cases od <;> cases dt <;> cases h
theorem ktab_of {K : PySem.W.Frag} {w : World} {x : Str} {tbl : List (Str × D)} (h1 : He.dicW K (He.ga K x) = some (He.keysIn w.params (tbl.map (·.1)))) (h2 : tblB x tbl K = true) : KTab K w x tbl where
  kd := He.dicW_ok h1
  yes := fun z d e => by
    have hm : (z, d) ∈ tbl := by
      clear h1 h2
      induction tbl with
      | nil => cases e
      | cons q r ih =>
        rw [List.lookup_cons] at e
        split at e
        · rename_i hb
          have hz := eq_of_beq hb
          cases e
          obtain ⟨q1, q2⟩ := q
          subst hz
          simp
        · exact List.mem_cons_of_mem _ (ih e)
    have h3 := List.all_eq_true.mp h2 (z, d) hm
    cases q : PySem.W.nsIn K (He.ga K x) z with
    | none => simp only [q] at h3; cases h3
    | some r =>
      cases r with
      | none => simp only [q] at h3; cases h3
      | some u =>
        simp only [q] at h3
        obtain ⟨v, r1, r2⟩ := tB_ok h3
        exact ⟨u, v, rfl, r1, r2⟩
  no := fun z e => nsIn_no h1 fun hm => by
    clear h1 h2
    induction tbl with
    | nil => simp at hm
    | cons q r ih =>
      rw [List.lookup_cons] at e
      split at e
      · cases e
      · rename_i hb
        simp only [List.map_cons, List.mem_cons] at hm
        rcases hm with hm | hm
        · rw [hm] at hb; simp at hb
        · exact ih e hm
theorem saysT_dic {fa : List He.Fa} {fn : List He.DefD} {ts : List He.Tab} {w : World} {K : PySem.W.Frag} (c : He.SaysT fa fn ts w K) (i : Nat) {t : He.Tab} (h : ts[i]? = some t := by rfl) : He.dicW K (t.1 K) = some (He.keysIn w.params t.2) := by
  have e : ts.map (fun t => He.dicW K (t.1 K)) = ts.map fun t => some (He.keysIn w.params t.2) := congrArg (fun z : He.AlT => z.2) c
  have e2 : (ts.map fun t => He.dicW K (t.1 K))[i]? = (ts.map fun t => some (He.keysIn w.params t.2))[i]? := by rw [e]
  rw [List.getElem?_map, List.getElem?_map, h] at e2
  exact Option.some.inj e2
/-! ### exceptions that a suite asks of -/
def excB (c : Str) (K : PySem.W.Frag) : Bool :=
  decide (PySem.W.findIn K (.ref (He.ga K c)) "__getattribute__" = some (some (.builtin "BaseException.__getattribute__"))) && (decide (PySem.W.findIn K (.ref (He.ga K c)) "__getattr__" = some none) && (decide (PySem.W.subIn K (.ref (He.ga K c)) (.type "BaseException") = some true) &&
  (PySem.W.hasDictIn K (He.ga K c) && (decide (PySem.W.findIn K (.ref (He.ga K c)) "__class__" = some (some (.builtin "object.__class__"))) && (decide (PySem.W.specialIn K (.builtin "object.__class__") "__get__" = some (some (.builtin "getset_descriptor.__get__"))) &&
  (decide (PySem.W.takesIn K (.builtin "object.__class__") = some true) && decide (PySem.W.mroIn K (He.ga K c) (.type "object") = some true)))))))
theorem excB_ok {c : Str} {K : PySem.W.Frag} (h : excB c K = true) : ExcC K (He.ga K c) := by
  unfold excB at h
  simp only [Bool.and_eq_true, decide_eq_true_eq] at h
  obtain ⟨h1, h2, h3, h4, h5, h6, h7, h8⟩ := h
  exact ⟨h1, h2, h3, h4, h5, h6, h7, h8⟩
def kitB' (cs : List Str) (sub : Str → Str → Bool) (C : Str) (K : PySem.W.Frag) : Bool := cs.all fun c => excB c K && decide (PySem.W.kitOne K (.ref (He.ga K c)) (.ref (He.ga K C)) = some (sub c C))
theorem kitB_ok {cs : List Str} {sub : Str → Str → Bool} {C : Str} {K : PySem.W.Frag} (h : kitB' cs sub C K = true) : IsiOk K cs sub C := fun c hc => by
  have h1 := List.all_eq_true.mp h c hc
  simp only [Bool.and_eq_true, decide_eq_true_eq] at h1
  exact ⟨excB_ok h1.1, h1.2⟩
def exmB (cs : List Str) (sub : Str → Str → Bool) (A : Str) (K : PySem.W.Frag) : Bool := cs.all fun c => decide (PySem.W.exmOne K (.ref (He.ga K c)) (.ref (He.ga K A)) = some (sub c A))
theorem exmB_ok {cs : List Str} {sub : Str → Str → Bool} {A : Str} {K : PySem.W.Frag} (h : exmB cs sub A K = true) : ExmOk K cs sub A := fun c hc => of_decide_eq_true (List.all_eq_true.mp h c hc)
theorem fldOk_of {K : PySem.W.Frag} {c f : Str} (h1 : (He.Fa.cls c).ok K = true) (h2 : (He.Fa.noat c f).ok K = true) : FldOk K f c := ⟨He.cls_ok h1, He.noat_ok h2⟩
/-! ### a def and what it promises -/
structure FnP (P : Program) (w : World) (K : PySem.W.Frag) (mg : Str → Option Value) (base : Heap) (k : Nat) (fa : Addr) (ps : List Str) (sp : Sp) : Prop where
  ex : ∃ fd, FnOk P w K mg base (L2.CX P w) k fa fd ps sp ∧ Binds K fd ps [] ∧ ∃ oc od osl, K.lookup fa = some ⟨oc, od, .func fd, osl⟩
  kp : PySem.W.keepIn K (.ref fa) = true
/-- a def of the written part -/
structure DefK (K : PySem.W.Frag) (st : Stmt) (x qual : Str) (fa : Addr) (ps : List Str) : Prop where
  ex : ∃ fd, Fun K x qual st fa fd ∧ Binds K fd ps [] ∧ (∀ (s : Shared) (us : List Value), us.length = ps.length → BindsTo s fd ⟨us, []⟩ (ps.zip us))
  kp : PySem.W.keepIn K (.ref fa) = true
theorem DefK.of {K : PySem.W.Frag} {st : Stmt} {x qual : Str} {fa : Addr} {ps : List Str} (h : ∃ fd, FunD K x qual (defArgs st) (defBody st) (defScope st) [] [] fa fd)
    (hb : ∀ (kV doc pm : Value) (an : Option Addr) (cdv ct : Value) (us : List Value), us.length = ps.length → bindArgs (PySem.W.fnOf x qual (defArgs st) (defBody st) (defScope st) .none kV doc pm an cdv ct) ⟨us, []⟩ = pure (ps.zip us)) : DefK K st x qual fa ps := by
  obtain ⟨fd, F⟩ := h
  exact ⟨⟨fd, He5.fun_of F, F.bindsN hb, F.bindsA hb⟩, F.kp⟩
theorem fun_lk {K : PySem.W.Frag} {st : Stmt} {x qual : Str} {fa : Addr} {fd : FuncData} (F : Fun K x qual st fa fd) : ∃ oc od osl, K.lookup fa = some ⟨oc, od, .func fd, osl⟩ := by
  obtain ⟨oc, od, _, _, _, _, _, _, osl, _, lk, _⟩ := F.ex
  exact ⟨oc, od, osl, lk⟩
theorem FnP.at_ {P : Program} {w : World} {K : PySem.W.Frag} {mg : Str → Option Value} {base : Heap} {k : Nat} {fa : Addr} {ps : List Str} {sp : Sp} {x qual : Str} {st : Stmt} {fd : FuncData} (h : FnP P w K mg base k fa ps sp) (F : Fun K x qual st fa fd) : FnOk P w K mg base (L2.CX P w) k fa fd ps sp := by
  obtain ⟨fd', G, _, oc, od, osl, lk⟩ := h.ex
  obtain ⟨oc2, od2, osl2, lk2⟩ := fun_lk F
  rw [lk] at lk2
  cases lk2
  exact G
theorem DefK.f {P : Program} {w : World} {K : PySem.W.Frag} {mg : Str → Option Value} {base : Heap} {x qual : Str} {st : Stmt} {fa : Addr} {N ps : List Str} {k : Nat} {body : Sls → Fl} (h : DefK K st x qual fa ps) (S : FnScope N ps (defScope st))
    (hb : ∀ (cdv : Value) (A : Around) (outer : List Env) (s : Shared) (H : Hp) (E : XK), Room k (A.deeper (envOfC qual (defScope st) s.heap.objs.size fa cdv)) →
      SSs (cxOf (L2.CX P w) P w K mg base N qual (defScope st) fa cdv A outer s H E) (fun _ => E) (defBody st) body) : FnP P w K mg base (k + 1) fa ps (spF K (runF N.length ps.length body)) := by
  obtain ⟨fd, F, b, _⟩ := h.ex
  exact ⟨⟨fd, fn_F F S hb, b, fun_lk F⟩, h.kp⟩
theorem DefK.i {P : Program} {w : World} {K : PySem.W.Frag} {mg : Str → Option Value} {base : Heap} {c x qual : Str} {st : Stmt} {fa : Addr} {N ps : List Str} {p0 : Str} {k n : Nat} {body : Sls → Fl} (h : DefK K st x qual fa (p0 :: ps)) (S : FnScope N (p0 :: ps) (defScope st)) (hn : N.length = n + 1)
    (hb : ∀ (cdv : Value) (A : Around) (outer : List Env) (s : Shared) (H : Hp) (E : XK), Room k (A.deeper (envOfC qual (defScope st) s.heap.objs.size fa cdv)) →
      SSs (cxOf (L2.CX P w) P w K mg base N qual (defScope st) fa cdv A outer s H E) (fun _ => E) (defBody st) body) : FnP P w K mg base (k + 1) fa (p0 :: ps) (spI K c (runI (n + 1) ps.length c body)) := by
  obtain ⟨fd, F, b, _⟩ := h.ex
  exact ⟨⟨fd, fn_I F S hn hb, b, fun_lk F⟩, h.kp⟩
/-! ### a law's end -/
theorem walk_ofX {l : PySem.W.OpenLaw} {n k : Nat} {q : Program} {loose : List Str} {XP : (Str → Option Value) → Heap → Prop} {YP : World → Heap → Prop} {d : DefRec} {x qual : Str} {st : Stmt} {Fl : List D → Res D}
    (hn : l.most = some n) (hn2 : n ≤ sizeLine) (hdf : d.params.defaults = []) (hr : Room k callerA)
    (F : ∀ (w : World) (mg : Str → Option Value) (fa : Addr) (h : Heap), YP w h → h.Ns mainGlobals mg → mg d.name = some (.ref fa) →
      ∃ (K : PySem.W.Frag), K.In h ∧ DefK K st d.name qual fa [x] ∧ ∀ base : Heap, K.In base → base.Ns mainGlobals mg → ∀ fd, Fun K d.name qual st fa fd → FnOk l.prog w K mg base (L2.CX l.prog w) k fa fd [x] (spF K Fl))
    (hL : ∀ ns : List Int, ns.length ≤ n → Fl [.kl (ns.map .int)] = ok (.bl true)) :
    PySem.W.WalkO q loose XP YP l.row.toRowW d [] (fun f vs => PySem.call f vs) := by
  refine Att.attach_call hn hdf fun w s₀ s₁ mg mb fa o pm cd doc a vs ns G Y ho hd hcd hmg hobj hints hlen hg => ?_
  obtain ⟨K, KX, DK, hF⟩ := F w mg fa _ Y G.T.g hmg
  obtain ⟨fd, fu, _, hb⟩ := DK.ex
  refine law_call (sp := spF K Fl) KX G.T.g G.T.b G.T.builtins G.T.nolimit hg hobj hints (Nat.le_trans hlen hn2) hr (fun base h1 h2 => hF base h1 h2 fd fu) (fun s u => hb s [u] rfl) (fun H hO hS => ?_) fun H e s' ⟨_, _, _, _, _, _, _, _, _, _, _, _, z⟩ => z
  refine ⟨[.kl (ns.map .int)], fun _ => False, .cons (.kl (vs := ns.map V.int) ?_ ?_ ?_) .nil, fun _ z => z.elim, ?_⟩
  · rcases hS with z | z
    · exact .inl ⟨z, fun z => z⟩
    · exact .inr z
  · rw [List.length_map]; exact Nat.le_trans hlen hn2
  · clear hS hlen hints
    induction ns with
    | nil => exact .nil
    | cons i r ih => exact .cons (.int i) ih
  · rw [hL ns hlen]
    exact fun v H' _ r => by cases r; rfl
end PP

namespace PP
open PySem PySem.Spec PyProof.Rows L2
open Res (ok exc bad)
theorem none_of {P : Str → Prop} : ∀ x ∈ ([] : List Str), P x := fun _ h => by cases h
theorem cons_of {P : Str → Prop} {c : Str} {l : List Str} (h : P c) (r : ∀ x ∈ l, P x) : ∀ x ∈ c :: l, P x := fun x hx => by
  rcases List.mem_cons.mp hx with e | e
  · rw [e]; exact h
  · exact r x e
theorem un1 {k : Nat} {A : Around} (r : Room k A) : A.units + 1 < cLine := by have := r.un; omega
theorem un65 {k : Nat} {A : Around} (r : Room k A) : A.units + 65 < cLine := by have := r.un; omega
theorem passB {X : Cx} (σ : L2.St) : PassesAt (L2.CX X.prog X.w) X σ (E0' σ) := fun pins H s e s' I c => by
  obtain ⟨_, _, _, _, _, _, _, _, _, _, _, _, z⟩ := c
  exact z.elim
def sFrz (i : Nat) (s : Sls → Fl) : Sls → Fl := fun ρ => s (frzAt i ρ)
structure ExcF (K : PySem.W.Frag) (mg : Str → Option Value) (c : Str) : Prop where
  q : PySem.W.excIn K (He.ga K c) He.veBase "ValueError.__new__" = true ∧ PySem.W.keepIn K (.ref (He.ga K c)) = true ∧ PySem.W.subIn K (.ref (He.ga K c)) (.type "BaseException") = some true ∧ PySem.W.typeIn K (.ref (He.ga K c)) = some (.type "type")
  g : mg c = some (.ref (He.ga K c))
theorem ExcF.ra {X : Cx} {c : Str} (h : ExcF X.K X.mg c) : RaOk X c := ⟨h.q.1, h.g, h.q.2.1, h.q.2.2.1, h.q.2.2.2⟩
theorem allB {l : List Bool} (h : l.all id = true) (i : Nat) {b : Bool} (e : l[i]? = some b) : b = true := List.all_eq_true.mp h b (List.mem_of_getElem? e)
end PP

namespace PP
open PySem L2
open Res (ok exc bad)
/-! ### texts -/
def mkS (l : List Nat) : Str := ⟨l.toArray⟩
def sg (c : Nat) : D := .str ⟨#[c]⟩
abbrev tx (l : List Nat) : D := .str (mkS l)
theorem mkS_length (l : List Nat) : (mkS l).length = l.length := by show l.toArray.size = _; simp
theorem mkS_cps (l : List Nat) : (mkS l).cps.toList = l := by show l.toArray.toList = _; simp
theorem mkS_app (a b : List Nat) : mkS a ++ mkS b = mkS (a ++ b) := by
  show (⟨a.toArray ++ b.toArray⟩ : Str) = _
  simp [mkS]
theorem mkS_inj {a b : List Nat} : mkS a = mkS b ↔ a = b := ⟨fun h => by
  have e := congrArg (fun z : Str => z.cps.toList) h
  simpa [mkS_cps] using e, fun h => by rw [h]⟩
theorem sg_eq (c : Nat) : sg c = tx [c] := rfl
theorem signs_mkS (l : List Nat) : signs (mkS l) = l.map sg := by
  unfold signs
  rw [mkS_cps]
  rfl
theorem items_tx {l : List Nat} (h : l.length ≤ 1000000) : items (tx l) = some (l.map sg) := by
  show (if (mkS l).cps.size ≤ 1000000 then some (signs (mkS l)) else none) = _
  rw [if_pos (by show l.toArray.size ≤ _; simpa using h), signs_mkS]
theorem size1000 : 4000000 ≤ sizeLine := big_line
theorem dLen_tx {l : List Nat} (h : l.length ≤ 1000000) : dLen [tx l] = some (.int l.length) := by
  show (if (mkS l).length ≤ sizeLine then some (D.int (mkS l).length) else none) = _
  rw [mkS_length, if_pos (by have := size1000; omega)]
theorem dAdd_tx {a b : List Nat} (h : a.length + b.length ≤ 1000000) : dAdd (tx a) (tx b) = some (tx (a ++ b)) := by
  show (if (mkS a).length + (mkS b).length ≤ sizeLine then some (D.str (mkS a ++ mkS b)) else none) = _
  rw [mkS_length, mkS_length, if_pos (by have := size1000; omega), mkS_app]
theorem dEq_tx (a b : List Nat) : dEq (tx a) (tx b) = some (.bl (decide (a = b))) := by
  show some (D.bl (decide (mkS a = mkS b))) = _
  simp only [mkS_inj]
theorem dNe_tx (a b : List Nat) : dNe (tx a) (tx b) = some (.bl (!decide (a = b))) := by
  unfold dNe
  rw [dEq_tx]
theorem atI_nat {α : Type} (xs : List α) (i : Nat) : L2.atI xs (i : Int) = xs[i]? := by
  unfold L2.atI L2.ixN
  by_cases h : i < xs.length
  · rw [if_pos (by omega), if_pos (by omega)]
    show xs[((i : Int)).toNat]? = _
    rw [Int.toNat_natCast]
  · rw [if_pos (by omega), if_neg (by omega)]
    rw [List.getElem?_eq_none (by omega)]
    rfl
theorem atI_int {α : Type} (xs : List α) (i : Int) (h0 : 0 ≤ i) : L2.atI xs i = xs[i.toNat]? := by
  obtain ⟨n, rfl⟩ := Int.eq_ofNat_of_zero_le h0
  rw [atI_nat]
  rfl
theorem dIx_tx {l : List Nat} {i : Int} (h : l.length ≤ 1000000) (h0 : 0 ≤ i) : dIx (tx l) (.int i) = (l[i.toNat]?).map sg := by
  show (if (mkS l).length ≤ sizeLine then (L2.atI (mkS l).cps.toList i).map (fun c => D.str ⟨#[c]⟩) else none) = _
  rw [mkS_length, if_pos (by have := size1000; omega), mkS_cps, atI_int _ _ h0]
  rfl
theorem dIx_tup {l : List D} {i : Int} (h0 : 0 ≤ i) : dIx (.tup l) (.int i) = l[i.toNat]? := atI_int _ _ h0
theorem dIx_lst {l : List D} {i : Int} (h0 : 0 ≤ i) : dIx (.lst l) (.int i) = l[i.toNat]? := atI_int _ _ h0
theorem sIx_pos (n d : Nat) (k : Int) (h : 0 ≤ k) : HT.sIx n d (some k) = min k.toNat n := by
  obtain ⟨m, rfl⟩ := Int.eq_ofNat_of_zero_le h
  rw [HT.sIx_nat]
  rfl
theorem cutD_to {l : List D} {k : Int} (h : 0 ≤ k) : cutD l none (some k) = l.take k.toNat := by
  unfold cutD
  rw [HT.sIx_none, sIx_pos _ _ _ h, List.drop_zero, Nat.sub_zero]
  rcases Nat.le_total k.toNat l.length with q | q
  · rw [Nat.min_eq_left q]
  · rw [Nat.min_eq_right q, List.take_length, List.take_of_length_le q]
theorem cutD_from {l : List D} {k : Int} (h : 0 ≤ k) : cutD l (some k) none = l.drop k.toNat := by
  unfold cutD
  rw [HT.sIx_none, sIx_pos _ _ _ h]
  rcases Nat.le_total k.toNat l.length with q | q
  · rw [Nat.min_eq_left q, List.take_of_length_le (by rw [List.length_drop]; omega)]
  · rw [Nat.min_eq_right q, Nat.sub_self, List.take_zero, List.drop_of_length_le q]
theorem cutD_both {l : List D} {i k : Int} (h : 0 ≤ i) (h2 : 0 ≤ k) : cutD l (some i) (some k) = (l.drop i.toNat).take (k.toNat - i.toNat) := by
  unfold cutD
  rw [sIx_pos _ _ _ h, sIx_pos _ _ _ h2]
  rcases Nat.le_total i.toNat l.length with q | q
  · rw [Nat.min_eq_left q]
    rcases Nat.le_total k.toNat l.length with q2 | q2
    · rw [Nat.min_eq_left q2]
    · rw [Nat.min_eq_right q2, List.take_of_length_le (by rw [List.length_drop]; omega), List.take_of_length_le (by rw [List.length_drop]; omega)]
  · rw [Nat.min_eq_right q, List.drop_of_length_le q, List.drop_of_length_le (Nat.le_refl _), List.take_nil, List.take_nil]
theorem cutS_to {l : List Nat} {k : Int} (h : 0 ≤ k) : cutS (mkS l) none (some k) = mkS (l.take k.toNat) := by
  unfold cutS
  rw [mkS_length, mkS_cps, HT.sIx_none, sIx_pos _ _ _ h, List.drop_zero, Nat.sub_zero]
  rcases Nat.le_total k.toNat l.length with q | q
  · rw [Nat.min_eq_left q]; rfl
  · rw [Nat.min_eq_right q, List.take_length, List.take_of_length_le q]; rfl
theorem cutS_from {l : List Nat} {k : Int} (h : 0 ≤ k) : cutS (mkS l) (some k) none = mkS (l.drop k.toNat) := by
  unfold cutS
  rw [mkS_length, mkS_cps, HT.sIx_none, sIx_pos _ _ _ h]
  rcases Nat.le_total k.toNat l.length with q | q
  · rw [Nat.min_eq_left q, List.take_of_length_le (by rw [List.length_drop]; omega)]; rfl
  · rw [Nat.min_eq_right q, Nat.sub_self, List.take_zero, List.drop_of_length_le q]; rfl
theorem dSl_txTo {l : List Nat} {k : Int} (h : l.length ≤ 1000000) (h0 : 0 ≤ k) : dSl (tx l) none (some k) = some (tx (l.take k.toNat)) := by
  show (if (mkS l).length ≤ sizeLine then some (D.str (cutS (mkS l) none (some k))) else none) = _
  rw [mkS_length, if_pos (by have := size1000; omega), cutS_to h0]
theorem dSl_txFrom {l : List Nat} {k : Int} (h : l.length ≤ 1000000) (h0 : 0 ≤ k) : dSl (tx l) (some k) none = some (tx (l.drop k.toNat)) := by
  show (if (mkS l).length ≤ sizeLine then some (D.str (cutS (mkS l) (some k) none)) else none) = _
  rw [mkS_length, if_pos (by have := size1000; omega), cutS_from h0]
theorem runF_rt {n k : Nat} {s : Sls → Fl} {ds : List D} {d : D} (h : s (startS n ds) = .rt d) (hk : ds.length = k := by rfl) : runF n k s ds = ok d := by
  unfold runF
  rw [if_pos hk, h]
theorem runF_nx {n k : Nat} {s : Sls → Fl} {ds : List D} {ρ : Sls} (h : s (startS n ds) = .nx ρ) (hk : ds.length = k := by rfl) : runF n k s ds = ok .non := by
  unfold runF
  rw [if_pos hk, h]
theorem runF_exc {n k : Nat} {s : Sls → Fl} {ds : List D} {c : Str} {ρ : Sls} (h : s (startS n ds) = .exc c ρ) (hk : ds.length = k := by rfl) : runF n k s ds = exc c := by
  unfold runF
  rw [if_pos hk, h]
/-! ### joining -/
theorem asSs_tx : ∀ (ls : List (List Nat)), asSs (ls.map tx) = some (ls.map mkS)
  | [] => rfl
  | l :: r => by
    show (asSs (r.map tx)).map (fun bs => mkS l :: bs) = _
    rw [asSs_tx r]
    rfl
theorem join_nil (ls : List (List Nat)) : Txt.join (mkS []) (ls.map mkS) = mkS ls.flatten := by
  have e : Txt.join (mkS []) (ls.map mkS) = mkS (TL.joinL [] ls) := SX.join_S [] ls
  rw [e]
  congr 1
  clear e
  induction ls with
  | nil => rfl
  | cons a r ih => cases r with
    | nil => simp [TL.joinL]
    | cons b q => show a ++ ([] ++ TL.joinL [] (b :: q)) = _; rw [ih]; rfl
theorem dJoin_tx {ls : List (List Nat)} (h : (ls.map List.length).sum ≤ 1000000) : dJoin (tx []) (.lst (ls.map tx)) = some (tx ls.flatten) := by
  show ((asSs (ls.map tx)).bind fun ys => if (ys.map (·.length)).sum + ys.length * (mkS []).length ≤ 16777216 then some (D.str (Txt.join (mkS []) ys)) else none) = _
  rw [asSs_tx]
  show (if ((ls.map mkS).map (·.length)).sum + (ls.map mkS).length * 0 ≤ 16777216 then some (D.str (Txt.join (mkS []) (ls.map mkS))) else none) = _
  have e : (ls.map mkS).map (·.length) = ls.map List.length := by
    rw [List.map_map]
    exact List.map_congr_left fun x _ => mkS_length x
  rw [e, if_pos (by omega), join_nil]
/-! ### loops -/
theorem forL_inv {step : D → Sls → Fl} {R : Nat → Sls → Prop} : ∀ {xs : List D} {i : Nat} {ρ : Sls}, (∀ j x ρ, xs[j]? = some x → R (i + j) ρ → ∃ ρ', (step x ρ = .nx ρ' ∨ step x ρ = .ct ρ') ∧ R (i + j + 1) ρ') → R i ρ → ∃ ρ', forL step xs ρ = .nx ρ' ∧ R (i + xs.length) ρ'
  | [], i, ρ, _, h0 => ⟨ρ, rfl, h0⟩
  | x :: xs, i, ρ, h, h0 => by
    obtain ⟨ρ1, e1, r1⟩ := h 0 x ρ rfl h0
    obtain ⟨ρ2, e2, r2⟩ := forL_inv (step := step) (R := R) (xs := xs) (i := i + 1) (ρ := ρ1) (fun j y ρ hy hr => by
      have := h (j + 1) y ρ (by simpa using hy) (by rw [show i + (j + 1) = i + 1 + j by omega]; exact hr)
      rw [show i + (j + 1) + 1 = i + 1 + j + 1 by omega] at this
      exact this) r1
    refine ⟨ρ2, ?_, by rw [show i + (x :: xs).length = i + 1 + xs.length by simp; omega]; exact r2⟩
    unfold forL
    rcases e1 with e1 | e1 <;> rw [e1] <;> exact e2
/-- the invariant speaks of what is left -/
theorem forL_go {α : Type} {step : D → Sls → Fl} {R : α → Sls → Prop} {f : α → D → α} : ∀ {xs : List D} {a : α} {ρ : Sls}, (∀ x ∈ xs, ∀ a ρ, R a ρ → ∃ ρ', (step x ρ = .nx ρ' ∨ step x ρ = .ct ρ') ∧ R (f a x) ρ') → R a ρ → ∃ ρ', forL step xs ρ = .nx ρ' ∧ R (xs.foldl f a) ρ'
  | [], a, ρ, _, h0 => ⟨ρ, rfl, h0⟩
  | x :: xs, a, ρ, h, h0 => by
    obtain ⟨ρ1, e1, r1⟩ := h x (by simp) a ρ h0
    obtain ⟨ρ2, e2, r2⟩ := forL_go (step := step) (R := R) (f := f) (xs := xs) (fun y hy => h y (by simp [hy])) r1
    refine ⟨ρ2, ?_, r2⟩
    unfold forL
    rcases e1 with e1 | e1 <;> rw [e1] <;> exact e2
theorem forL_all {step : D → Sls → Fl} {R : Sls → Prop} {xs : List D} {ρ : Sls} (h : ∀ x ∈ xs, ∀ ρ, R ρ → ∃ ρ', (step x ρ = .nx ρ' ∨ step x ρ = .ct ρ') ∧ R ρ') (h0 : R ρ) : ∃ ρ', forL step xs ρ = .nx ρ' ∧ R ρ' := by
  obtain ⟨ρ', e, r⟩ := forL_go (α := Unit) (R := fun _ => R) (f := fun _ _ => ()) (a := ()) (fun x hx _ ρ hr => h x hx ρ hr) h0
  exact ⟨ρ', e, r⟩
theorem compL_map {step : D → Res (Option D)} {g : D → Option D} : ∀ {xs : List D}, (∀ x ∈ xs, step x = ok (g x)) → compL step xs = ok (xs.filterMap g)
  | [], _ => rfl
  | x :: xs, h => by
    show ((step x).quiet >>= fun r => compL step xs >>= fun ys => ok (match r with | some y => y :: ys | none => ys)) = _
    rw [h x (by simp), compL_map (xs := xs) (g := g) fun y hy => h y (by simp [hy])]
    simp only [Res.quiet_ok, Res.ok_bind, List.filterMap_cons]
    cases g x <;> rfl
theorem compL_of {α : Type} {step : D → Res (Option D)} {emb : α → D} {g : α → Option D} {as : List α} (h : ∀ a ∈ as, step (emb a) = ok (g a)) : compL step (as.map emb) = ok (as.filterMap g) := by
  induction as with
  | nil => rfl
  | cons x xs ih =>
    show ((step (emb x)).quiet >>= fun r => compL step (xs.map emb) >>= fun ys => ok (match r with | some y => y :: ys | none => ys)) = _
    rw [h x (by simp), ih fun y hy => h y (by simp [hy])]
    simp only [Res.quiet_ok, Res.ok_bind, List.filterMap_cons]
    cases g x <;> rfl
theorem compL_all {α : Type} {step : D → Res (Option D)} {emb : α → D} {g : α → D} {as : List α} (h : ∀ a ∈ as, step (emb a) = ok (some (g a))) : compL step (as.map emb) = ok (as.map g) := by
  rw [compL_of (g := fun a => some (g a)) h]
  congr 1
  induction as with
  | nil => rfl
  | cons x xs ih => rw [List.filterMap_cons]; simp only [List.map_cons]; rw [ih fun y hy => h y (by simp [hy])]
theorem rangeD_map (lo : Int) (n : Nat) : rangeD lo n = (List.range n).map fun i : Nat => D.int (lo + (i : Int)) := rfl
theorem asBs_map {α : Type} (p : α → Bool) : ∀ l : List α, asBs (l.map fun a => D.bl (p a)) = some (l.map p)
  | [] => rfl
  | a :: r => by
    show ((some (p a)).bind fun b => (asBs (r.map fun a => D.bl (p a))).map fun bs => b :: bs) = _
    rw [asBs_map p r]
    rfl
theorem dAll_map {α : Type} (p : α → Bool) (l : List α) : dAll [.lst (l.map fun a => D.bl (p a))] = some (.bl (l.all p)) := by
  show (asBs (l.map fun a => D.bl (p a))).map (fun bs => D.bl (bs.all id)) = _
  rw [asBs_map, Option.map_some, List.all_map]
  rfl
theorem dAny_map {α : Type} (p : α → Bool) (l : List α) : dAny [.lst (l.map fun a => D.bl (p a))] = some (.bl (l.any p)) := by
  show (asBs (l.map fun a => D.bl (p a))).map (fun bs => D.bl (bs.any id)) = _
  rw [asBs_map, Option.map_some, List.any_map]
  rfl
/-! ### pairs of numbers -/
abbrev pt (p : Int × Int) : D := .tup [.int p.1, .int p.2]
def pq (p : Int × Int) : PyData := .tuple [.int p.1, .int p.2]
theorem toPD_pt (p : Int × Int) : toPD (pt p) = some (pq p) := by simp [toPD, toPDs, pq]
/-- can be looked at deeply: n deep at most -/
def Sh (n : Nat) (d : PyData) : Prop := d.canLay0 = true ∧ d.depth ≤ n
theorem Sh.shaped {n : Nat} {d : PyData} (h : Sh n d) (hn : n ≤ 64 := by decide) : SeqAt.shaped d = true := by
  show (d.canLay0 && decide (d.depth ≤ 64)) = true
  rw [h.1, decide_eq_true (Nat.le_trans h.2 hn)]
  rfl
theorem sh_all {n : Nat} : ∀ {ds : List PyData}, (∀ d ∈ ds, Sh n d) → PyData.canLayAll0 ds = true ∧ PyData.depthAll ds ≤ n
  | [], _ => ⟨by simp [PyData.canLayAll0], by simp [PyData.depthAll]⟩
  | d :: ds, h => by
    obtain ⟨a, b⟩ := sh_all (ds := ds) fun x hx => h x (by simp [hx])
    obtain ⟨c, e⟩ := h d (by simp)
    exact ⟨by simp [PyData.canLayAll0, a, c], by simp only [PyData.depthAll]; exact Nat.max_le.mpr ⟨e, b⟩⟩
theorem Sh.tup {n : Nat} {ds : List PyData} (h : ∀ d ∈ ds, Sh n d) : Sh (n + 1) (.tuple ds) := by
  obtain ⟨a, b⟩ := sh_all h
  exact ⟨by simpa [PyData.canLay0] using a, by simpa [PyData.depth] using b⟩
theorem Sh.lst {n : Nat} {ds : List PyData} (h : ∀ d ∈ ds, Sh n d) : Sh (n + 1) (.list ds) := by
  obtain ⟨a, b⟩ := sh_all h
  exact ⟨by simpa [PyData.canLay0] using a, by simpa [PyData.depth] using b⟩
theorem Sh.int {n : Nat} (i : Int) : Sh n (.int i) := ⟨by simp [PyData.canLay0], by simp [PyData.depth]⟩
theorem sh_pq (p : Int × Int) : Sh 1 (pq p) := Sh.tup fun d hd => by
  simp only [List.mem_cons, List.not_mem_nil, or_false] at hd
  rcases hd with e | e <;> rw [e] <;> exact .int _
theorem shaped_pq (p : Int × Int) : SeqAt.shaped (pq p) = true := (sh_pq p).shaped
theorem eqv_pq (p q : Int × Int) : PyData.eqv (pq p) (pq q) = decide (p = q) := by
  obtain ⟨a, b⟩ := p
  obtain ⟨c, d⟩ := q
  simp only [pq, PyData.eqv, PyData.eqvAll, Bool.and_true, Prod.mk.injEq]
  by_cases h1 : a = c <;> by_cases h2 : b = d <;> simp [h1, h2]
theorem dEq_pt (p q : Int × Int) : dEq (pt p) (pt q) = some (.bl (decide (p = q))) := by
  show (deepEq (pt p) (pt q)).map D.bl = _
  unfold deepEq
  rw [toPD_pt, toPD_pt]
  simp only [Option.bind_some, shaped_pq, Bool.and_self, if_true, eqv_pq, Option.map_some]
theorem dNe_pt (p q : Int × Int) : dNe (pt p) (pt q) = some (.bl (!decide (p = q))) := by
  unfold dNe
  rw [dEq_pt]
theorem toPDs_pt : ∀ ps : List (Int × Int), toPDs (ps.map pt) = some (ps.map pq)
  | [] => by simp [toPDs]
  | p :: r => by
    simp only [List.map_cons, toPDs, toPDs_pt r, Option.bind_some, Option.map_some]
    rw [toPD_pt]
    rfl
theorem shaped_pqs (ps : List (Int × Int)) : SeqAt.shaped (.list (ps.map pq)) = true := (Sh.lst (n := 1) fun d hd => by
  obtain ⟨p, _, rfl⟩ := List.mem_map.mp hd
  exact sh_pq p).shaped
theorem dIn_pt (p : Int × Int) (ps : List (Int × Int)) : dIn (pt p) (.lst (ps.map pt)) = some (.bl (decide (p ∈ ps))) := by
  show (inSeq (pt p) (ps.map pt)).map D.bl = _
  unfold inSeq
  rw [toPD_pt, toPDs_pt]
  simp only [Option.bind_some, shaped_pq, shaped_pqs, Bool.and_self, if_true, Option.map_some]
  congr 2
  rw [List.any_map]
  by_cases h : p ∈ ps
  · rw [decide_eq_true h, List.any_eq_true]
    exact ⟨p, h, by simp [eqv_pq]⟩
  · rw [decide_eq_false h, List.any_eq_false]
    intro x hx
    simp only [Function.comp, eqv_pq, decide_eq_true_eq]
    exact fun e => h (e ▸ hx)
end PP

namespace PP
open PySem L2
open Res (ok exc bad)
/-- script many draws seed cell number k -/
noncomputable def b__law_draws : Sls → Fl :=
    (sSeq (sSetO 2 (mLst []))
    (sSeq (sSet 3 (mC (.int 7)))
    (sSeq (sFor (mIt (mSl dSl (mVar 0) mNoPart (mPart (mC (.int 63))))) (tgName 4)
    (sSeq (sSet 5 (mBI dAbs [(mVar 4)]))
    (sSeq (sSet 3 (mOp2 dMod (mBI dInt [(mOp2 dAdd (mOp2 dAdd (mOp2 dMul (mVar 3) (mC (.int 48271))) (mVar 5)) (mC (.int 11)))]) (mC (.int 2147483647))))
    (sIf (mT (mOp2 dGe (mVar 5) (mOp2 dPow (mC (.int 10)) (mC (.int 18))))) (sFor (mRng rng1 [(mC (.int 60))]) (tgName 6)
    (sIf (mT (mOp2 dGt (mVar 5) (mC (.int 0)))) (sSeq (sApp 2 (mOp2 dMod (mBI dInt [(mVar 5)]) (mC (.int 1009))))
    (sSet 5 (mOp2 dDiv (mVar 5) (mC (.int 1009))))) sNx)) (sApp 2 (mOp2 dMod (mOp2 dDiv (mBI dInt [(mOp2 dAdd (mOp2 dMul (mVar 3) (mC (.int 16807))) (mC (.int 5)))]) (mC (.int 3))) (mC (.int 65521))))))))
    (sSeq (sFor (mRng rng1 [(mVar 1)]) (tgName 6)
    (sIf (mT (mOp2 dLt (mBI dLen [(mVarB 2)]) (mVar 1))) (sSeq (sSet 3 (mOp2 dMod (mBI dInt [(mOp2 dAdd (mOp2 dAdd (mOp2 dMul (mVar 3) (mC (.int 69621))) (mVar 6)) (mC (.int 1)))]) (mC (.int 2147483647))))
    (sApp 2 (mOp2 dMod (mOp2 dDiv (mBI dInt [(mVar 3)]) (mC (.int 7))) (mC (.int 65521))))) sNx))
    (sRet (mSl dSl (mVarB 2) mNoPart (mPart (mVar 1))))))))
noncomputable def F__law_draws : List D → Res D := runF 7 2 b__law_draws
/-- draws high wide found row draw k -/
noncomputable def b__law_rows : Sls → Fl :=
    (sSeq (sSetO 3 (mLst []))
    (sSeq (sFor (mRng rng1 [(mVar 1)]) (tgName 4)
    (sSeq (sSet 5 (mBI dInt [(mOp2 dIx (mVar 0) (mOp2 dAdd (mC (.int 1)) (mOp2 dMod (mVar 4) (mOp2 dSub (mBI dLen [(mVar 0)]) (mC (.int 1))))))]))
    (sApp 3 (mM1 dJoin (mC (.str "")) (mLc (mRng rng1 [(mVar 2)]) [6] (tgName 6) mYes (mIf (mT (mOp2 dLt (mOp2 dMod (mOp2 dDiv (mBI dInt [(mOp2 dAdd (mOp2 dAdd (mOp2 dMul (mVar 5) (mOp2 dAdd (mVar 6) (mC (.int 3)))) (mOp2 dMul (mVar 6) (mC (.int 37)))) (mOp2 dMul (mVar 4) (mC (.int 11))))]) (mC (.int 7))) (mC (.int 8))) (mOp2 dMod (mBI dInt [(mOp2 dIx (mVar 0) (mC (.int 0)))]) (mC (.int 4))))) (mC (.str "#")) (mC (.str "."))))))))
    (sRet (mBI dTuple [(mOp2 dAdd (mLst [(mOp2 dAdd (mC (.str ".")) (mSl dSl (mOp2 dIx (mVarB 3) (mC (.int 0))) (mPart (mC (.int 1))) mNoPart))]) (mSl dSl (mVarB 3) (mPart (mC (.int 1))) mNoPart))]))))
noncomputable def F__law_rows : List D → Res D := runF 7 3 b__law_rows
/-- rows found row k -/
noncomputable def b__law_cells : Sls → Fl :=
    (sSeq (sSet 1 (mLst []))
    (sSeq (sFor (mRng rng1 [(mBI dLen [(mVar 0)])]) (tgName 2)
    (sSet 1 (mOp2 dAdd (mVar 1) (mLc (mRng rng1 [(mBI dLen [(mOp2 dIx (mVar 0) (mC (.int 0)))])]) [3] (tgName 3) (mT (mOp2 dEq (mOp2 dIx (mOp2 dIx (mVar 0) (mVar 2)) (mVar 3)) (mC (.str ".")))) (mTup [(mVar 2), (mVar 3)])))))
    (sRet (mBI dTuple [(mVar 1)]))))
noncomputable def F__law_cells : List D → Res D := runF 4 1 b__law_cells
/-- rows cell found step there -/
noncomputable def b__law_near : Sls → Fl :=
    (sSeq (sSetO 2 (mLst []))
    (sSeq (sFor (mIt (mLst [(mTup [(mOp1 dNeg (mC (.int 1))), (mC (.int 0))]), (mTup [(mC (.int 0)), (mOp1 dNeg (mC (.int 1)))]), (mTup [(mC (.int 0)), (mC (.int 1))]), (mTup [(mC (.int 1)), (mC (.int 0))])])) (tgName 3)
    (sSeq (sSet 4 (mTup [(mOp2 dAdd (mOp2 dIx (mVar 1) (mC (.int 0))) (mOp2 dIx (mVar 3) (mC (.int 0)))), (mOp2 dAdd (mOp2 dIx (mVar 1) (mC (.int 1))) (mOp2 dIx (mVar 3) (mC (.int 1))))]))
    (sIf (mAnd (mT (mChain dLe dLt (mC (.int 0)) (mOp2 dIx (mVar 4) (mC (.int 0))) (mBI dLen [(mVar 0)]))) (mAnd (mT (mChain dLe dLt (mC (.int 0)) (mOp2 dIx (mVar 4) (mC (.int 1))) (mBI dLen [(mOp2 dIx (mVar 0) (mC (.int 0)))]))) (mT (mOp2 dEq (mOp2 dIx (mOp2 dIx (mVar 0) (mOp2 dIx (mVar 4) (mC (.int 0)))) (mOp2 dIx (mVar 4) (mC (.int 1)))) (mC (.str ".")))))) (sApp 2 (mVar 4)) sNx)))
    (sFrz 2 (sRet (mVar 2)))))
noncomputable def F__law_near : List D → Res D := runF 5 2 b__law_near
theorem dMul_r {i j : Int} (h1 : -(2 ^ 64) < j) (h2 : j < 2 ^ 64) : dMul (.int i) (.int j) = some (.int (i * j)) := by
  show (if mulOk i j = true then some (D.int (i * j)) else none) = _
  rw [if_pos]
  exact decide_eq_true (.inr ⟨h1, h2⟩)
theorem dMul_l {i j : Int} (h1 : -(2 ^ 64) < i) (h2 : i < 2 ^ 64) : dMul (.int i) (.int j) = some (.int (i * j)) := by
  show (if mulOk i j = true then some (D.int (i * j)) else none) = _
  rw [if_pos]
  exact decide_eq_true (.inl ⟨h1, h2⟩)
theorem dMod_i {i j : Int} (h : 0 < j) : dMod (.int i) (.int j) = some (.int (i % j)) := if_pos h
theorem dDiv_i {i j : Int} (h : 0 < j) (h2 : j < 1073741824) : dDiv (.int i) (.int j) = some (.int (i / j)) := if_pos ⟨h, h2⟩
@[simp] theorem dAdd_i (i j : Int) : dAdd (.int i) (.int j) = some (.int (i + j)) := id rfl
@[simp] theorem dSub_i (i j : Int) : dSub (.int i) (.int j) = some (.int (i - j)) := id rfl
@[simp] theorem dLt_i (i j : Int) : dLt (.int i) (.int j) = some (.bl (decide (i < j))) := id rfl
@[simp] theorem dLe_i (i j : Int) : dLe (.int i) (.int j) = some (.bl (decide (i ≤ j))) := id rfl
@[simp] theorem dGt_i (i j : Int) : dGt (.int i) (.int j) = some (.bl (decide (j < i))) := id rfl
@[simp] theorem dGe_i (i j : Int) : dGe (.int i) (.int j) = some (.bl (decide (j ≤ i))) := id rfl
@[simp] theorem dEq_i (i j : Int) : dEq (.int i) (.int j) = some (.bl (decide (i = j))) := id rfl
@[simp] theorem dNe_i (i j : Int) : dNe (.int i) (.int j) = some (.bl (!decide (i = j))) := id rfl
@[simp] theorem dInt_i (i : Int) : dInt [.int i] = some (.int i) := id rfl
@[simp] theorem dAbs_i (i : Int) : dAbs [.int i] = some (.int (if i < 0 then -i else i)) := id rfl
@[simp] theorem dNeg_i (i : Int) : dNeg (.int i) = some (.int (-i)) := id rfl
@[simp] theorem dLen_l (xs : List D) : dLen [.lst xs] = some (.int xs.length) := id rfl
@[simp] theorem dLen_t (xs : List D) : dLen [.tup xs] = some (.int xs.length) := id rfl
@[simp] theorem dLen_k (xs : List D) : dLen [.kl xs] = some (.int xs.length) := id rfl
@[simp] theorem asB_b (b : Bool) : asB (.bl b) = some b := id rfl
@[simp] theorem asI_i (i : Int) : asI (.int i) = some i := id rfl
/-- numbers that were drawn -/
def Drawn (ds : List Int) : Prop := ∀ d ∈ ds, 0 ≤ d ∧ d < 65521
theorem Drawn.snoc {ds : List Int} {d : Int} (h : Drawn ds) (h1 : 0 ≤ d) (h2 : d < 65521) : Drawn (ds ++ [d]) := fun x hx => by
  rcases List.mem_append.mp hx with h3 | h3
  · exact h x h3
  · rw [List.mem_singleton.mp h3]; exact ⟨h1, h2⟩
def dst (sc many : D) (ds : List Int) (seed : Int) (s4 s5 s6 : Sl) : Sls := [.fz sc, .fz many, .ow (.lst (ds.map .int)), .fz (.int seed), s4, s5, s6]
theorem app_go {i : Nat} {f : Sls → Res D} {ρ : Sls} {ds : List Int} {d : Int} (h : ρ[i]? = some (.ow (.lst (ds.map .int)))) (hf : f ρ = ok (.int d)) (hl : ds.length ≤ 1000000) : sApp i f ρ = .nx (ρ.set i (.ow (.lst ((ds ++ [d]).map .int)))) := by
  unfold sApp
  rw [h]
  simp only [hf, thenF_ok, List.length_map, List.map_append, List.map_cons, List.map_nil]
  rw [if_pos (by have := size1000; omega)]
theorem draws_inner {sc many : D} {s4 : Sl} {seed : Int} (ds : List Int) (num : Int) (s6 : Sl) (h0 : 0 ≤ num) (hd : Drawn ds) (hl : ds.length ≤ 10000) :
    ∃ ds' num' s6', forL (fun x ρ => thenF (tgName 6 x ρ).quiet ρ (sIf (mT (mOp2 dGt (mVar 5) (mC (.int 0)))) (sSeq (sApp 2 (mOp2 dMod (mBI dInt [(mVar 5)]) (mC (.int 1009))))
    (sSet 5 (mOp2 dDiv (mVar 5) (mC (.int 1009))))) sNx)) (rangeD 0 60) (dst sc many ds seed s4 (.fz (.int num)) s6) = .nx (dst sc many ds' seed s4 (.fz (.int num')) s6') ∧ Drawn ds' ∧ ds'.length ≤ ds.length + 60 ∧ 0 ≤ num' := by
  have key := forL_inv (xs := rangeD 0 60) (i := 0) (ρ := dst sc many ds seed s4 (.fz (.int num)) s6) (R := fun i ρ => ∃ ds' num' s6', ρ = dst sc many ds' seed s4 (.fz (.int num')) s6' ∧ Drawn ds' ∧ ds'.length ≤ ds.length + i ∧ 0 ≤ num')
    (step := fun x ρ => thenF (tgName 6 x ρ).quiet ρ (sIf (mT (mOp2 dGt (mVar 5) (mC (.int 0)))) (sSeq (sApp 2 (mOp2 dMod (mBI dInt [(mVar 5)]) (mC (.int 1009))))
    (sSet 5 (mOp2 dDiv (mVar 5) (mC (.int 1009))))) sNx)) (fun j x ρ hx ⟨ds', num', s6', e, h1, h2, h3⟩ => ?_) ⟨ds, num, s6, rfl, hd, by omega, h0⟩
  · obtain ⟨ρ', e, ds', num', s6', e2, r1, r2, r3⟩ := key
    exact ⟨ds', num', s6', by rw [e, e2], r1, by rw [show (rangeD 0 60).length = 60 by simp [rangeD]] at r2; omega, r3⟩
  · subst e
    have hj : j < 60 := by
      have := (List.getElem?_eq_some_iff.mp hx).1
      simpa [rangeD] using this
    by_cases hp : 0 < num'
    · refine ⟨dst sc many (ds' ++ [num' % 1009]) seed s4 (.fz (.int (num' / 1009))) (.fz x), .inl ?_, _, _, _, rfl, h1.snoc (by omega) (by omega), by simp; omega, by omega⟩
      have happ : sApp 2 (mOp2 dMod (mBI dInt [mVar 5]) (mC (.int 1009))) (dst sc many ds' seed s4 (.fz (.int num')) (.fz x)) = .nx (dst sc many (ds' ++ [num' % 1009]) seed s4 (.fz (.int num')) (.fz x)) := by
        rw [app_go (ds := ds') (d := num' % 1009) rfl (by simp [mOp2, mBI, mArgs, mVar, dst, mC, dMod_i]) (by omega)]
        rfl
      simp only [tgName, Res.quiet_ok, thenF_ok]
      show sIf _ _ _ (dst sc many ds' seed s4 (.fz (.int num')) (.fz x)) = _
      have ht : mT (mOp2 dGt (mVar 5) (mC (.int 0))) (dst sc many ds' seed s4 (.fz (.int num')) (.fz x)) = ok true := by
        simp [mT, mOp2, mVar, dst, mC, hp]
      simp only [sIf, ht, thenF_ok, if_true, sSeq, happ]
      simp [sSet, mOp2, mVar, mC, dst, dDiv_i]
    · refine ⟨dst sc many ds' seed s4 (.fz (.int num')) (.fz x), .inl ?_, _, _, _, rfl, h1, by omega, h3⟩
      simp only [tgName, Res.quiet_ok, thenF_ok]
      show sIf _ _ _ (dst sc many ds' seed s4 (.fz (.int num')) (.fz x)) = _
      have ht : mT (mOp2 dGt (mVar 5) (mC (.int 0))) (dst sc many ds' seed s4 (.fz (.int num')) (.fz x)) = ok false := by
        simp [mT, mOp2, mVar, dst, mC, hp]
      simp only [sIf, ht, thenF_ok, if_false, sNx, Bool.false_eq_true]
/-- the first walk's step -/
theorem draws_step {sc many : D} (ds : List Int) (seed c : Int) (s4 s5 s6 : Sl) (hd : Drawn ds) (hl : ds.length ≤ 10000) (h0 : 0 ≤ seed) :
    ∃ ds' seed' s4' s5' s6', thenF (tgName 4 (.int c) (dst sc many ds seed s4 s5 s6)).quiet (dst sc many ds seed s4 s5 s6) (sSeq (sSet 5 (mBI dAbs [(mVar 4)]))
    (sSeq (sSet 3 (mOp2 dMod (mBI dInt [(mOp2 dAdd (mOp2 dAdd (mOp2 dMul (mVar 3) (mC (.int 48271))) (mVar 5)) (mC (.int 11)))]) (mC (.int 2147483647))))
    (sIf (mT (mOp2 dGe (mVar 5) (mOp2 dPow (mC (.int 10)) (mC (.int 18))))) (sFor (mRng rng1 [(mC (.int 60))]) (tgName 6)
    (sIf (mT (mOp2 dGt (mVar 5) (mC (.int 0)))) (sSeq (sApp 2 (mOp2 dMod (mBI dInt [(mVar 5)]) (mC (.int 1009))))
    (sSet 5 (mOp2 dDiv (mVar 5) (mC (.int 1009))))) sNx)) (sApp 2 (mOp2 dMod (mOp2 dDiv (mBI dInt [(mOp2 dAdd (mOp2 dMul (mVar 3) (mC (.int 16807))) (mC (.int 5)))]) (mC (.int 3))) (mC (.int 65521))))))) = .nx (dst sc many ds' seed' s4' s5' s6') ∧ Drawn ds' ∧ ds'.length ≤ ds.length + 60 ∧ 0 ≤ seed' := by
  have hn : (0 : Int) ≤ (if c < 0 then -c else c) := by split <;> omega
  generalize hN : (if c < 0 then -c else c) = num at hn
  have hs : (0 : Int) ≤ (seed * 48271 + num + 11) % 2147483647 := by omega
  generalize hS : (seed * 48271 + num + 11) % 2147483647 = seed1 at hs
  have e1 : sSet 5 (mBI dAbs [(mVar 4)]) (dst sc many ds seed (.fz (.int c)) s5 s6) = .nx (dst sc many ds seed (.fz (.int c)) (.fz (.int num)) s6) := by
    simp [sSet, mBI, mArgs, mVar, dst, hN]
  have e2 : sSet 3 (mOp2 dMod (mBI dInt [(mOp2 dAdd (mOp2 dAdd (mOp2 dMul (mVar 3) (mC (.int 48271))) (mVar 5)) (mC (.int 11)))]) (mC (.int 2147483647))) (dst sc many ds seed (.fz (.int c)) (.fz (.int num)) s6) = .nx (dst sc many ds seed1 (.fz (.int c)) (.fz (.int num)) s6) := by
    simp [sSet, mBI, mArgs, mVar, dst, mOp2, mC, dMul_r, dMod_i, hS]
  have e0 : tgName 4 (.int c) (dst sc many ds seed s4 s5 s6) = ok (dst sc many ds seed (.fz (.int c)) s5 s6) := rfl
  rw [e0]
  simp only [Res.quiet_ok, thenF_ok, sSeq, e1, e2]
  have hp : dPow (.int 10) (.int 18) = some (.int (10 ^ 18)) := by
    show (if (0 : Int) ≤ 18 ∧ (18 : Int) ≤ 1000 ∧ (10 : Int).natAbs < 2 ^ 64 then some (D.int (10 ^ (18 : Int).toNat)) else none) = _
    rw [if_pos (by decide)]
    rfl
  by_cases hg : (10 : Int) ^ 18 ≤ num
  · have ht : mT (mOp2 dGe (mVar 5) (mOp2 dPow (mC (.int 10)) (mC (.int 18)))) (dst sc many ds seed1 (.fz (.int c)) (.fz (.int num)) s6) = ok true := by
      have hg2 : (1000000000000000000 : Int) ≤ num := hg
      simp [mT, mOp2, mVar, dst, mC, hp, hg2]
    simp only [sIf, ht, thenF_ok, if_true]
    have hr : mRng rng1 [(mC (.int 60))] (dst sc many ds seed1 (.fz (.int c)) (.fz (.int num)) s6) = ok (rangeD 0 60) := rfl
    obtain ⟨ds', num', s6', e, r1, r2, r3⟩ := draws_inner (sc := sc) (many := many) (s4 := .fz (.int c)) (seed := seed1) ds num s6 hn hd hl
    refine ⟨ds', seed1, .fz (.int c), .fz (.int num'), s6', ?_, r1, r2, hs⟩
    simp only [sFor, hr, thenF_ok]
    exact e
  · have ht : mT (mOp2 dGe (mVar 5) (mOp2 dPow (mC (.int 10)) (mC (.int 18)))) (dst sc many ds seed1 (.fz (.int c)) (.fz (.int num)) s6) = ok false := by
      have hg2 : ¬ (1000000000000000000 : Int) ≤ num := hg
      simp [mT, mOp2, mVar, dst, mC, hp, hg2]
    simp only [sIf, ht, thenF_ok, if_false, Bool.false_eq_true]
    refine ⟨ds ++ [(seed1 * 16807 + 5) / 3 % 65521], seed1, _, _, _, (app_go (ds := ds) (d := (seed1 * 16807 + 5) / 3 % 65521) rfl (by simp [mOp2, mBI, mArgs, mVar, dst, mC, dMul_r, dMod_i, dDiv_i]) (by omega)).trans rfl, hd.snoc (by omega) (by omega), by simp, hs⟩
/-- the second walk's step -/
theorem draws_step2 {sc : D} (many : Nat) (ds : List Int) (seed : Int) (k : Nat) (s4 s5 s6 : Sl) (hd : Drawn ds) (hl : ds.length ≤ 10000) (h0 : 0 ≤ seed) :
    ∃ ds' seed' s6', thenF (tgName 6 (.int (0 + (k : Int))) (dst sc (.int many) ds seed s4 s5 s6)).quiet (dst sc (.int many) ds seed s4 s5 s6) (sIf (mT (mOp2 dLt (mBI dLen [(mVarB 2)]) (mVar 1))) (sSeq (sSet 3 (mOp2 dMod (mBI dInt [(mOp2 dAdd (mOp2 dAdd (mOp2 dMul (mVar 3) (mC (.int 69621))) (mVar 6)) (mC (.int 1)))]) (mC (.int 2147483647))))
    (sApp 2 (mOp2 dMod (mOp2 dDiv (mBI dInt [(mVar 3)]) (mC (.int 7))) (mC (.int 65521))))) sNx) = .nx (dst sc (.int many) ds' seed' s4 s5 s6') ∧ Drawn ds' ∧ ds'.length = (if ds.length < many then ds.length + 1 else ds.length) ∧ 0 ≤ seed' := by
  have e0 : tgName 6 (.int (0 + (k : Int))) (dst sc (.int many) ds seed s4 s5 s6) = ok (dst sc (.int many) ds seed s4 s5 (.fz (.int (0 + (k : Int))))) := rfl
  rw [e0]
  simp only [Res.quiet_ok, thenF_ok]
  by_cases hm : ds.length < many
  · have ht : mT (mOp2 dLt (mBI dLen [(mVarB 2)]) (mVar 1)) (dst sc (.int many) ds seed s4 s5 (.fz (.int (0 + (k : Int))))) = ok true := by
      simp [mT, mOp2, mBI, mArgs, mVarB, mVar, dst, hm]
    have hs : (0 : Int) ≤ (seed * 69621 + (0 + (k : Int)) + 1) % 2147483647 := by omega
    generalize hS : (seed * 69621 + (0 + (k : Int)) + 1) % 2147483647 = seed1 at hs
    have e2 : sSet 3 (mOp2 dMod (mBI dInt [(mOp2 dAdd (mOp2 dAdd (mOp2 dMul (mVar 3) (mC (.int 69621))) (mVar 6)) (mC (.int 1)))]) (mC (.int 2147483647))) (dst sc (.int many) ds seed s4 s5 (.fz (.int (0 + (k : Int))))) = .nx (dst sc (.int many) ds seed1 s4 s5 (.fz (.int (0 + (k : Int))))) := by
      rw [← hS]
      simp [sSet, mBI, mArgs, mVar, dst, mOp2, mC, dMul_r, dMod_i]
    simp only [sIf, ht, thenF_ok, if_true, sSeq, e2]
    refine ⟨ds ++ [seed1 / 7 % 65521], seed1, _, (app_go (ds := ds) (d := seed1 / 7 % 65521) rfl (by simp [mOp2, mBI, mArgs, mVar, dst, mC, dMod_i, dDiv_i]) (by omega)).trans rfl, hd.snoc (by omega) (by omega), by simp [hm], hs⟩
  · have ht : mT (mOp2 dLt (mBI dLen [(mVarB 2)]) (mVar 1)) (dst sc (.int many) ds seed s4 s5 (.fz (.int (0 + (k : Int))))) = ok false := by
      simp [mT, mOp2, mBI, mArgs, mVarB, mVar, dst, hm]
    simp only [sIf, ht, thenF_ok, if_false, Bool.false_eq_true, sNx]
    exact ⟨ds, seed, _, rfl, hd, by rw [if_neg hm], h0⟩
theorem draws_ok (ns : List Int) (many : Nat) (hm : many ≤ 1000) : ∃ ds : List Int, F__law_draws [.kl (ns.map .int), .int many] = ok (.lst (ds.map .int)) ∧ ds.length = many ∧ Drawn ds := by
  let sc : D := .kl (ns.map .int)
  have e1 : sSetO 2 (mLst []) (startS 7 [sc, .int many]) = .nx [.fz sc, .fz (.int many), .ow (.lst []), .no, .no, .no, .no] := rfl
  have e2 : sSet 3 (mC (.int 7)) [.fz sc, .fz (.int many), .ow (.lst []), .no, .no, .no, .no] = .nx (dst sc (.int many) [] 7 .no .no .no) := rfl
  have ei : mIt (mSl dSl (mVar 0) mNoPart (mPart (mC (.int 63)))) (dst sc (.int many) [] 7 .no .no .no) = ok ((ns.take 63).map .int) := by
    have : dSl sc none (some 63) = some (.lst ((ns.take 63).map .int)) := by
      show some (D.lst (cutD (ns.map .int) none (some 63))) = _
      rw [cutD_to (by decide), ← List.map_take]
      rfl
    simp [mIt, mSl, mVar, dst, mNoPart, mPart, mC, this, items]
  obtain ⟨ρ1, f1, ds1, seed1, s4, s5, s6, r1, r2, r3, r4⟩ := forL_inv (xs := (ns.take 63).map .int) (i := 0) (ρ := dst sc (.int many) [] 7 .no .no .no)
    (step := fun x ρ => thenF (tgName 4 x ρ).quiet ρ (sSeq (sSet 5 (mBI dAbs [(mVar 4)]))
    (sSeq (sSet 3 (mOp2 dMod (mBI dInt [(mOp2 dAdd (mOp2 dAdd (mOp2 dMul (mVar 3) (mC (.int 48271))) (mVar 5)) (mC (.int 11)))]) (mC (.int 2147483647))))
    (sIf (mT (mOp2 dGe (mVar 5) (mOp2 dPow (mC (.int 10)) (mC (.int 18))))) (sFor (mRng rng1 [(mC (.int 60))]) (tgName 6)
    (sIf (mT (mOp2 dGt (mVar 5) (mC (.int 0)))) (sSeq (sApp 2 (mOp2 dMod (mBI dInt [(mVar 5)]) (mC (.int 1009))))
    (sSet 5 (mOp2 dDiv (mVar 5) (mC (.int 1009))))) sNx)) (sApp 2 (mOp2 dMod (mOp2 dDiv (mBI dInt [(mOp2 dAdd (mOp2 dMul (mVar 3) (mC (.int 16807))) (mC (.int 5)))]) (mC (.int 3))) (mC (.int 65521))))))))
    (R := fun i ρ => ∃ ds seed s4 s5 s6, ρ = dst sc (.int many) ds seed s4 s5 s6 ∧ Drawn ds ∧ ds.length ≤ 60 * i ∧ 0 ≤ seed) (fun j x ρ hx ⟨ds, seed, s4, s5, s6, e, h1, h2, h3⟩ => by
      have hj : j < 63 := by
        have := (List.getElem?_eq_some_iff.mp hx).1
        simp at this
        omega
      rw [List.getElem?_map] at hx
      obtain ⟨c, hc, rfl⟩ := Option.map_eq_some_iff.mp hx
      subst e
      obtain ⟨ds', seed', s4', s5', s6', q, q1, q2, q3⟩ := draws_step (sc := sc) (many := .int many) ds seed c s4 s5 s6 h1 (by omega) h3
      exact ⟨_, .inl q, ds', seed', s4', s5', s6', rfl, q1, by omega, q3⟩) ⟨[], 7, .no, .no, .no, rfl, fun d h => by simp at h, by simp, by decide⟩
  have hl : ds1.length ≤ 60 * 63 := by
    have : ((ns.take 63).map D.int).length ≤ 63 := by simp; omega
    omega
  have er : mRng rng1 [(mVar 1)] (dst sc (.int many) ds1 seed1 s4 s5 s6) = ok (rangeD 0 many) := by
    have : rng1 [.int (many : Int)] = some (rangeD 0 many) := by
      show (if (many : Int) ≤ 1000000 ∧ -1000000 ≤ (many : Int) then some (rangeD 0 (many : Int).toNat) else none) = _
      rw [if_pos (by omega)]
      rfl
    simp [mRng, mArgs, mVar, dst, this]
  obtain ⟨ρ2, f2, ds2, seed2, t6, w1, w2, w3, w4, w5⟩ := forL_inv (xs := rangeD 0 many) (i := 0) (ρ := dst sc (.int many) ds1 seed1 s4 s5 s6)
    (step := fun x ρ => thenF (tgName 6 x ρ).quiet ρ (sIf (mT (mOp2 dLt (mBI dLen [(mVarB 2)]) (mVar 1))) (sSeq (sSet 3 (mOp2 dMod (mBI dInt [(mOp2 dAdd (mOp2 dAdd (mOp2 dMul (mVar 3) (mC (.int 69621))) (mVar 6)) (mC (.int 1)))]) (mC (.int 2147483647))))
    (sApp 2 (mOp2 dMod (mOp2 dDiv (mBI dInt [(mVar 3)]) (mC (.int 7))) (mC (.int 65521))))) sNx))
    (R := fun i ρ => ∃ ds seed s6, ρ = dst sc (.int many) ds seed s4 s5 s6 ∧ Drawn ds ∧ (i ≤ ds.length ∨ many ≤ ds.length) ∧ ds.length ≤ max ds1.length many ∧ 0 ≤ seed) (fun j x ρ hx ⟨ds, seed, s6, e, h1, h2, h3, h4⟩ => by
      rw [rangeD_map, List.getElem?_map] at hx
      obtain ⟨c, hc, rfl⟩ := Option.map_eq_some_iff.mp hx
      subst e
      obtain ⟨ds', seed', s6', q, q1, q2, q3⟩ := draws_step2 (sc := sc) many ds seed c s4 s5 s6 h1 (by have := Nat.max_le.mpr ⟨(by omega : ds1.length ≤ 10000), (by omega : many ≤ 10000)⟩; omega) h4
      refine ⟨_, .inl q, ds', seed', s6', rfl, q1, ?_, ?_, q3⟩
      · split at q2 <;> omega
      · have a1 := Nat.le_max_right ds1.length many
        split at q2 <;> omega) ⟨ds1, seed1, s6, rfl, r2, .inl (Nat.zero_le _), Nat.le_max_left _ _, r4⟩
  have hlen : many ≤ ds2.length := by
    have : (rangeD 0 many).length = many := by simp [rangeD]
    rw [this] at w3
    omega
  refine ⟨ds2.take many, ?_, by simp; omega, fun d hd => w2 d (List.mem_of_mem_take hd)⟩
  refine runF_rt ?_
  have eb : b__law_draws (startS 7 [sc, .int many]) = .rt (.lst ((ds2.take many).map .int)) := by
    unfold b__law_draws
    simp only [sSeq, e1, e2, sFor, ei, thenF_ok, f1, r1, er, f2, w1]
    have : dSl (.lst (ds2.map .int)) none (some (many : Int)) = some (.lst ((ds2.take many).map .int)) := by
      show some (D.lst (cutD (ds2.map .int) none (some (many : Int)))) = _
      rw [cutD_to (by omega), ← List.map_take]
      rfl
    simp [sRet, mSl, mVarB, mVar, dst, mNoPart, mPart, this]
  exact eb
end PP

namespace PP
open PySem L2
open Res (ok exc bad)
section
variable {ρ : Sls} {f g : Sls → Res D} {x y : Int}
theorem op2_ev {h : D → D → Option D} {a b c : D} (w1 : f ρ = ok a) (w2 : g ρ = ok b) (e : h a b = some c) : mOp2 h f g ρ = ok c := by
  unfold mOp2
  rw [w1, Res.ok_bind, w2, Res.ok_bind, e, ofO_some]
theorem op1_ev {h : D → Option D} {a c : D} (w1 : f ρ = ok a) (e : h a = some c) : mOp1 h f ρ = ok c := by
  unfold mOp1
  rw [w1, Res.ok_bind, e, ofO_some]
theorem args0 : mArgs [] ρ = ok [] := rfl
theorem args_ev {fs : List (Sls → Res D)} {a : D} {as : List D} (w1 : f ρ = ok a) (w2 : mArgs fs ρ = ok as) : mArgs (f :: fs) ρ = ok (a :: as) := by
  unfold mArgs
  rw [w1, Res.ok_bind, w2, Res.ok_bind]
theorem bi_ev {h : List D → Option D} {fs : List (Sls → Res D)} {as : List D} {c : D} (w1 : mArgs fs ρ = ok as) (e : h as = some c) : mBI h fs ρ = ok c := by
  unfold mBI
  rw [w1, Res.ok_bind, e, ofO_some]
theorem bi1 {h : List D → Option D} {a c : D} (w1 : f ρ = ok a) (e : h [a] = some c) : mBI h [f] ρ = ok c := bi_ev (args_ev w1 args0) e
theorem call_ev {F : List D → Res D} {fs : List (Sls → Res D)} {as : List D} {r : Res D} (w1 : mArgs fs ρ = ok as) (e : F as = r) : mCall F fs ρ = r := by
  unfold mCall
  rw [w1, Res.ok_bind, e]
theorem make_ev {F : List D → Res D} {fs : List (Sls → Res D)} {as : List D} {c : D} (w1 : mArgs fs ρ = ok as) (e : F as = ok c) : mMake F fs ρ = ok c := by
  unfold mMake
  rw [w1, Res.ok_bind, e]
  rfl
theorem tup_ev {fs : List (Sls → Res D)} {as : List D} (w1 : mArgs fs ρ = ok as) : mTup fs ρ = ok (.tup as) := by
  unfold mTup
  rw [w1, Res.ok_bind]
theorem lst_ev {fs : List (Sls → Res D)} {as : List D} (w1 : mArgs fs ρ = ok as) : mLst fs ρ = ok (.lst as) := by
  unfold mLst
  rw [w1, Res.ok_bind]
theorem i_add (w1 : f ρ = ok (.int x)) (w2 : g ρ = ok (.int y)) : mOp2 dAdd f g ρ = ok (.int (x + y)) := op2_ev w1 w2 (dAdd_i x y)
theorem i_sub (w1 : f ρ = ok (.int x)) (w2 : g ρ = ok (.int y)) : mOp2 dSub f g ρ = ok (.int (x - y)) := op2_ev w1 w2 (dSub_i x y)
theorem two64 : (2 : Int) ^ 64 = 18446744073709551616 := by decide +kernel
theorem dMul_sl {i j : Int} (h1 : -1000000000 < i) (h2 : i < 1000000000) : dMul (.int i) (.int j) = some (.int (i * j)) := dMul_l (by rw [two64]; omega) (by rw [two64]; omega)
theorem dMul_sr {i j : Int} (h1 : -1000000000 < j) (h2 : j < 1000000000) : dMul (.int i) (.int j) = some (.int (i * j)) := dMul_r (by rw [two64]; omega) (by rw [two64]; omega)
theorem i_mulR (w1 : f ρ = ok (.int x)) (w2 : g ρ = ok (.int y)) (h1 : -1000000000 < y := by omega) (h2 : y < 1000000000 := by omega) : mOp2 dMul f g ρ = ok (.int (x * y)) := op2_ev w1 w2 (dMul_sr h1 h2)
theorem i_mulL (w1 : f ρ = ok (.int x)) (w2 : g ρ = ok (.int y)) (h1 : -1000000000 < x := by omega) (h2 : x < 1000000000 := by omega) : mOp2 dMul f g ρ = ok (.int (x * y)) := op2_ev w1 w2 (dMul_sl h1 h2)
theorem i_mod (w1 : f ρ = ok (.int x)) (w2 : g ρ = ok (.int y)) (h1 : 0 < y := by omega) : mOp2 dMod f g ρ = ok (.int (x % y)) := op2_ev w1 w2 (dMod_i h1)
theorem i_div (w1 : f ρ = ok (.int x)) (w2 : g ρ = ok (.int y)) (h1 : 0 < y := by omega) (h2 : y < 1073741824 := by omega) : mOp2 dDiv f g ρ = ok (.int (x / y)) := op2_ev w1 w2 (dDiv_i h1 h2)
theorem i_int (w1 : f ρ = ok (.int x)) : mBI dInt [f] ρ = ok (.int x) := bi1 w1 (dInt_i x)
theorem i_neg (w1 : f ρ = ok (.int x)) : mOp1 dNeg f ρ = ok (.int (-x)) := op1_ev w1 (dNeg_i x)
theorem i_lenL {l : List D} (w1 : f ρ = ok (.lst l)) : mBI dLen [f] ρ = ok (.int l.length) := bi1 w1 (dLen_l l)
theorem i_lenT {l : List D} (w1 : f ρ = ok (.tup l)) : mBI dLen [f] ρ = ok (.int l.length) := bi1 w1 (dLen_t l)
theorem i_lenS {l : List Nat} (w1 : f ρ = ok (tx l)) (h : l.length ≤ 1000000 := by omega) : mBI dLen [f] ρ = ok (.int l.length) := bi1 w1 (dLen_tx h)
theorem t_ev {b : Bool} (w : f ρ = ok (.bl b)) : mT f ρ = ok b := by
  unfold mT
  rw [w, Res.ok_bind, asB_b, ofO_some]
theorem t_lt (w1 : f ρ = ok (.int x)) (w2 : g ρ = ok (.int y)) : mT (mOp2 dLt f g) ρ = ok (decide (x < y)) := t_ev (op2_ev w1 w2 (dLt_i x y))
theorem t_le (w1 : f ρ = ok (.int x)) (w2 : g ρ = ok (.int y)) : mT (mOp2 dLe f g) ρ = ok (decide (x ≤ y)) := t_ev (op2_ev w1 w2 (dLe_i x y))
theorem t_gt (w1 : f ρ = ok (.int x)) (w2 : g ρ = ok (.int y)) : mT (mOp2 dGt f g) ρ = ok (decide (y < x)) := t_ev (op2_ev w1 w2 (dGt_i x y))
theorem t_ge (w1 : f ρ = ok (.int x)) (w2 : g ρ = ok (.int y)) : mT (mOp2 dGe f g) ρ = ok (decide (y ≤ x)) := t_ev (op2_ev w1 w2 (dGe_i x y))
theorem t_eqI (w1 : f ρ = ok (.int x)) (w2 : g ρ = ok (.int y)) : mT (mOp2 dEq f g) ρ = ok (decide (x = y)) := t_ev (op2_ev w1 w2 (dEq_i x y))
theorem t_neI (w1 : f ρ = ok (.int x)) (w2 : g ρ = ok (.int y)) : mT (mOp2 dNe f g) ρ = ok (!decide (x = y)) := t_ev (op2_ev w1 w2 (dNe_i x y))
theorem t_eqS {a b : List Nat} (w1 : f ρ = ok (tx a)) (w2 : g ρ = ok (tx b)) : mT (mOp2 dEq f g) ρ = ok (decide (a = b)) := t_ev (op2_ev w1 w2 (dEq_tx a b))
theorem t_neS {a b : List Nat} (w1 : f ρ = ok (tx a)) (w2 : g ρ = ok (tx b)) : mT (mOp2 dNe f g) ρ = ok (!decide (a = b)) := t_ev (op2_ev w1 w2 (dNe_tx a b))
theorem t_eqP {a b : Int × Int} (w1 : f ρ = ok (pt a)) (w2 : g ρ = ok (pt b)) : mT (mOp2 dEq f g) ρ = ok (decide (a = b)) := t_ev (op2_ev w1 w2 (dEq_pt a b))
theorem t_neP {a b : Int × Int} (w1 : f ρ = ok (pt a)) (w2 : g ρ = ok (pt b)) : mT (mOp2 dNe f g) ρ = ok (!decide (a = b)) := t_ev (op2_ev w1 w2 (dNe_pt a b))
variable {c d : Sls → Res Bool} {a b : Bool}
theorem not_ev (w : c ρ = ok a) : mNot c ρ = ok (!a) := by
  unfold mNot
  rw [w, Res.ok_bind]
theorem and_ev (w : c ρ = ok a) (w2 : a = true → d ρ = ok b) : mAnd c d ρ = ok (a && b) := by
  unfold mAnd
  rw [w, Res.ok_bind]
  cases a with
  | true => rw [if_pos rfl, w2 rfl]; rfl
  | false => rfl
theorem or_ev (w : c ρ = ok a) (w2 : a = false → d ρ = ok b) : mOr c d ρ = ok (a || b) := by
  unfold mOr
  rw [w, Res.ok_bind]
  cases a with
  | true => rfl
  | false => rw [if_neg Bool.false_ne_true, w2 rfl]; rfl
theorem andV_ev (w : f ρ = ok (.bl a)) (w2 : a = true → g ρ = ok (.bl b)) : mAndV f g ρ = ok (.bl (a && b)) := by
  unfold mAndV
  rw [w, Res.ok_bind, asB_b, ofO_some, Res.ok_bind]
  cases a with
  | true => rw [if_pos rfl, w2 rfl]; rfl
  | false => rfl
theorem orV_ev (w : f ρ = ok (.bl a)) (w2 : a = false → g ρ = ok (.bl b)) : mOrV f g ρ = ok (.bl (a || b)) := by
  unfold mOrV
  rw [w, Res.ok_bind, asB_b, ofO_some, Res.ok_bind]
  cases a with
  | true => rfl
  | false => rw [if_neg Bool.false_ne_true, w2 rfl]; rfl
theorem notV_ev (w : f ρ = ok (.bl a)) : mNotV f ρ = ok (.bl (!a)) := by
  unfold mNotV
  rw [w, Res.ok_bind, asB_b, ofO_some, Res.ok_bind]
theorem if_ev {u v : D} (w : c ρ = ok a) (w1 : a = true → f ρ = ok u) (w2 : a = false → g ρ = ok v) : mIf c f g ρ = ok (if a = true then u else v) := by
  unfold mIf
  rw [w, Res.ok_bind]
  cases a with
  | true => rw [if_pos rfl, if_pos rfl, w1 rfl]
  | false => rw [if_neg Bool.false_ne_true, if_neg Bool.false_ne_true, w2 rfl]
theorem chain_ev {h1 h2 : D → D → Option D} {k : Sls → Res D} {u v w : D} (e1 : f ρ = ok u) (e2 : g ρ = ok v) (e3 : h1 u v = some (.bl a)) (e4 : a = true → k ρ = ok w ∧ h2 v w = some (.bl b)) : mChain h1 h2 f g k ρ = ok (.bl (a && b)) := by
  unfold mChain
  rw [e1, Res.ok_bind, e2, Res.ok_bind, e3, ofO_some, Res.ok_bind, asB_b, ofO_some, Res.ok_bind]
  cases a with
  | true => rw [if_pos rfl, (e4 rfl).1, Res.ok_bind, (e4 rfl).2]; rfl
  | false => rfl
/-! ### statements -/
variable {s t : Sls → Fl} {ρ' : Sls}
theorem seq_nx (e : s ρ = .nx ρ') : sSeq s t ρ = t ρ' := by
  unfold sSeq
  rw [e]
theorem seq_nx2 {fl : Fl} (e : s ρ = .nx ρ') (e2 : t ρ' = fl) : sSeq s t ρ = fl := (seq_nx e).trans e2
theorem seq_exc {z : Str} (e : s ρ = .exc z ρ') : sSeq s t ρ = .exc z ρ' := by
  unfold sSeq
  rw [e]
theorem seq_rt {u : D} (e : s ρ = .rt u) : sSeq s t ρ = .rt u := by
  unfold sSeq
  rw [e]
theorem set_ev {i : Nat} {u : D} (e : f ρ = ok u) : sSet i f ρ = .nx (ρ.set i (.fz u)) := by
  unfold sSet
  rw [e]
  rfl
theorem setO_ev {i : Nat} {u : D} (e : f ρ = ok u) : sSetO i f ρ = .nx (ρ.set i (.ow u)) := by
  unfold sSetO
  rw [e]
  rfl
theorem ret_ev {u : D} (e : f ρ = ok u) : sRet f ρ = .rt u := by
  unfold sRet
  rw [e]
  rfl
theorem drop_ev {u : D} (e : f ρ = ok u) : sDrop f ρ = .nx ρ := by
  unfold sDrop
  rw [e]
  rfl
theorem drop_exc {z : Str} (e : f ρ = exc z) : sDrop f ρ = .exc z ρ := by
  unfold sDrop
  rw [e]
  rfl
theorem if_t (e : c ρ = ok true) : sIf c s t ρ = s ρ := by
  unfold sIf
  rw [e]
  rfl
theorem if_f (e : c ρ = ok false) : sIf c s t ρ = t ρ := by
  unfold sIf
  rw [e]
  rfl
theorem if_nx (e : c ρ = ok false) : sIf c s sNx ρ = .nx ρ := (if_f e).trans rfl
theorem par_ev {i j : Nat} {u v : D} (e : f ρ = ok u) (e2 : g ρ = ok v) : sPar i j f g ρ = .nx ((ρ.set i (.fz u)).set j (.fz v)) := by
  unfold sPar
  rw [e, thenF_ok, e2, thenF_ok]
theorem asg2_ev {i j : Nat} {u v : D} (e : f ρ = ok (.tup [u, v])) : sAsg (tgTup 2 (tgsCons (tgName i) (tgsCons (tgName j) tgsNil))) f ρ = .nx ((ρ.set i (.fz u)).set j (.fz v)) := by
  unfold sAsg
  rw [e]
  rfl
theorem for_ev {it : Sls → Res (List D)} {tg : TgF} {xs : List D} (e : it ρ = ok xs) : sFor it tg s ρ = forL (fun x ρ => thenF (tg x ρ).quiet ρ s) xs ρ := by
  unfold sFor
  rw [e, thenF_ok]
theorem it_ev {u : D} {xs : List D} (e : f ρ = ok u) (e2 : items u = some xs) : mIt f ρ = ok xs := by
  unfold mIt
  rw [e, Res.ok_bind, e2, ofO_some]
theorem app_ev {i : Nat} {xs : List D} {u : D} (h : ρ[i]? = some (.ow (.lst xs))) (hf : f ρ = ok u) (hl : xs.length ≤ 1000000) : sApp i f ρ = .nx (ρ.set i (.ow (.lst (xs ++ [u])))) := by
  unfold sApp
  rw [h]
  show thenF (f ρ) ρ _ = _
  rw [hf, thenF_ok, if_pos (by have := size1000; omega)]
theorem for_name {i : Nat} {x : D} : thenF (tgName i x ρ).quiet ρ s = s (ρ.set i (.fz x)) := rfl
theorem sl_to {u v : D} {k : Int} (e : f ρ = ok u) (e2 : g ρ = ok (.int k)) (e3 : dSl u none (some k) = some v) : mSl dSl f mNoPart (mPart g) ρ = ok v := by
  unfold mSl mNoPart mPart
  rw [e, Res.ok_bind, Res.ok_bind, e2]
  show ofO (dSl u none (some k)) = _
  rw [e3, ofO_some]
theorem sl_from {u v : D} {k : Int} (e : f ρ = ok u) (e2 : g ρ = ok (.int k)) (e3 : dSl u (some k) none = some v) : mSl dSl f (mPart g) mNoPart ρ = ok v := by
  unfold mSl mNoPart mPart
  rw [e, Res.ok_bind, e2]
  show ofO (dSl u (some k) none) = _
  rw [e3, ofO_some]
theorem sl_both {u v : D} {k l : Int} {f2 : Sls → Res D} (e : f ρ = ok u) (e1 : f2 ρ = ok (.int l)) (e2 : g ρ = ok (.int k)) (e3 : dSl u (some l) (some k) = some v) : mSl dSl f (mPart f2) (mPart g) ρ = ok v := by
  unfold mSl mPart
  rw [e, Res.ok_bind, e1]
  show ((g ρ >>= fun x => ofO (asI x) >>= fun i => ok (some i)) >>= fun hi => ofO (dSl u (some l) hi)) = _
  rw [e2]
  show ofO (dSl u (some l) (some k)) = _
  rw [e3, ofO_some]
theorem m1_ev {h : D → D → Option D} {z : Str} {v w : D} (e : f ρ = ok (.str z)) (e2 : g ρ = ok v) (e3 : h (.str z) v = some w) : mM1 h f g ρ = ok w := by
  unfold mM1
  rw [e, Res.ok_bind]
  show (g ρ >>= fun y => ofO (h (.str z) y)) = _
  rw [e2, Res.ok_bind, e3, ofO_some]
theorem lc_ev {α : Type} {it : Sls → Res (List D)} {vs : List Nat} {tg : TgF} {tt : Sls → Res Bool} {te : Sls → Res D} {emb : α → D} {as : List α} {p : α → Bool} {g : α → D} (hi : it ρ = ok (as.map emb))
    (h : ∀ a ∈ as, ∃ ρ', tg (emb a) (wipeS ρ vs) = ok ρ' ∧ tt ρ' = ok (p a) ∧ (p a = true → te ρ' = ok (g a))) : mLc it vs tg tt te ρ = ok (.lst ((as.filter p).map g)) := by
  unfold mLc
  rw [hi]
  simp only [Res.ok_bind]
  rw [compL_of (g := fun a => if p a then some (g a) else none) fun a ha => ?_]
  · simp only [Res.ok_bind]
    congr 2
    clear h hi
    induction as with
    | nil => rfl
    | cons a r ih =>
      rw [List.filterMap_cons, List.filter_cons]
      cases p a with
      | true => simp only [if_true, List.map_cons]; rw [ih]
      | false => simp only [Bool.false_eq_true, if_false]; exact ih
  · obtain ⟨ρ', h1, h2, h3⟩ := h a ha
    unfold lcStep
    rw [h1, Res.ok_bind, h2, Res.ok_bind]
    cases hp : p a with
    | true => rw [if_pos rfl, h3 hp]; rfl
    | false => rfl
theorem lc_ev0 {α : Type} {it : Sls → Res (List D)} {vs : List Nat} {tg : TgF} {te : Sls → Res D} {emb : α → D} {as : List α} {g : α → D} (hi : it ρ = ok (as.map emb))
    (h : ∀ a ∈ as, ∃ ρ', tg (emb a) (wipeS ρ vs) = ok ρ' ∧ te ρ' = ok (g a)) : mLc it vs tg mYes te ρ = ok (.lst (as.map g)) := by
  have := lc_ev (p := fun _ => true) (tt := mYes) hi fun a ha => by
    obtain ⟨ρ', h1, h2⟩ := h a ha
    exact ⟨ρ', h1, rfl, fun _ => h2⟩
  have e : as.filter (fun _ => true) = as := List.filter_eq_self.mpr fun _ _ => rfl
  rw [e] at this
  exact this
end
end PP

namespace PP
open PySem L2
open Res (ok exc bad)
theorem lit_hash : Str.ofString "#" = mkS [35] := by decide +kernel
theorem lit_dot : Str.ofString "." = mkS [46] := by decide +kernel
theorem lit_nil : Str.ofString "" = mkS [] := by decide +kernel
abbrev rowsL (rows : List (List Nat)) : List D := rows.map tx
abbrev rowsD (rows : List (List Nat)) : D := .tup (rowsL rows)
structure OkRows (rows : List (List Nat)) (h w : Nat) : Prop where
  len : rows.length = h
  wid : ∀ l ∈ rows, l.length = w
  sgn : ∀ l ∈ rows, ∀ c ∈ l, c = 35 ∨ c = 46
  h1 : 1 ≤ h
  h2 : h ≤ 14
  w1 : 1 ≤ w
  w2 : w ≤ 14
/-- a comprehension over numbers from 0 -/
theorem lc_range {it : Sls → Res (List D)} {i n : Nat} {te : Sls → Res D} {ρ : Sls} {g : Nat → D} (hi : it ρ = ok (rangeD 0 n)) (h : ∀ k < n, te ((ρ.set i .no).set i (.fz (.int (k : Int)))) = ok (g k)) : mLc it [i] (tgName i) mYes te ρ = ok (.lst ((List.range n).map g)) := by
  unfold mLc
  rw [hi]
  simp only [Res.ok_bind]
  rw [rangeD_map, compL_all (g := g) fun k hk => ?_]
  · rfl
  · have hk' := List.mem_range.mp hk
    show (tgName i (.int (0 + (k : Int))) (wipeS ρ [i]) >>= fun ρ' => mYes ρ' >>= fun b => if b then te ρ' >>= fun y => ok (some y) else ok none) = _
    rw [Int.zero_add]
    have := h k hk'
    simp only [tgName, wipeS, mYes, Res.ok_bind, if_true]
    rw [this]
    rfl
def rst (ds : List Int) (h w : Int) (found : List (List Nat)) (s4 s5 s6 : Sl) : Sls := [.fz (.lst (ds.map .int)), .fz (.int h), .fz (.int w), .ow (.lst (rowsL found)), s4, s5, s6]
theorem rng_nat {f : Sls → Res D} {ρ : Sls} {n : Nat} (h : f ρ = ok (.int (n : Int))) (hn : n ≤ 1000000) : mRng rng1 [f] ρ = ok (rangeD 0 n) := by
  have : rng1 [.int (n : Int)] = some (rangeD 0 n) := by
    show (if (n : Int) ≤ 1000000 ∧ -1000000 ≤ (n : Int) then some (rangeD 0 (n : Int).toNat) else none) = _
    rw [if_pos (by omega)]
    rfl
  simp [mRng, mArgs, h, this]
def rowSign (draw row d0 : Int) (k : Nat) : Nat := if (draw * ((k : Int) + (3 : Int)) + (k : Int) * (37 : Int) + row * (11 : Int)) / (7 : Int) % (8 : Int) < d0 % (4 : Int) then 35 else 46
theorem ones_sum {α : Type} (g : α → Nat) : ∀ l : List α, ((l.map fun k => [g k]).map List.length).sum = l.length
  | [] => rfl
  | a :: r => by
    have := ones_sum g r
    simp only [List.map_cons, List.sum_cons, List.length_cons, List.length_nil] at this ⊢
    omega
theorem ones_flat {α : Type} (g : α → Nat) : ∀ l : List α, (l.map fun k => [g k]).flatten = l.map g
  | [] => rfl
  | a :: r => by
    rw [List.map_cons, List.flatten_cons, ones_flat g r]
    rfl
theorem dJoin_ones {α : Type} (g : α → Nat) (l : List α) (h : l.length ≤ 1000000) : dJoin (tx []) (.lst (l.map fun k => tx [g k])) = some (tx (l.map g)) := by
  have := dJoin_tx (ls := l.map fun k => [g k]) (by rw [ones_sum]; exact h)
  rw [List.map_map, ones_flat] at this
  exact this
theorem rows_step (ds : List Int) (h w : Nat) (found : List (List Nat)) (row : Nat) (s4 s5 s6 : Sl) (hd : Drawn ds) (hl : 2 ≤ ds.length) (hw : w ≤ 14) (hf : found.length ≤ 100) :
    ∃ l s4' s5' s6', thenF (tgName 4 (.int (0 + (row : Int))) (rst ds h w found s4 s5 s6)).quiet (rst ds h w found s4 s5 s6) (sSeq (sSet 5 (mBI dInt [(mOp2 dIx (mVar 0) (mOp2 dAdd (mC (.int 1)) (mOp2 dMod (mVar 4) (mOp2 dSub (mBI dLen [(mVar 0)]) (mC (.int 1))))))]))
    (sApp 3 (mM1 dJoin (mC (.str "")) (mLc (mRng rng1 [(mVar 2)]) [6] (tgName 6) mYes (mIf (mT (mOp2 dLt (mOp2 dMod (mOp2 dDiv (mBI dInt [(mOp2 dAdd (mOp2 dAdd (mOp2 dMul (mVar 5) (mOp2 dAdd (mVar 6) (mC (.int 3)))) (mOp2 dMul (mVar 6) (mC (.int 37)))) (mOp2 dMul (mVar 4) (mC (.int 11))))]) (mC (.int 7))) (mC (.int 8))) (mOp2 dMod (mBI dInt [(mOp2 dIx (mVar 0) (mC (.int 0)))]) (mC (.int 4))))) (mC (.str "#")) (mC (.str "."))))))) = .nx (rst ds h w (found ++ [l]) s4' s5' s6') ∧ l.length = w ∧ ∀ c ∈ l, c = 35 ∨ c = 46 := by
  have e0 : tgName 4 (.int (0 + (row : Int))) (rst ds h w found s4 s5 s6) = ok (rst ds h w found (.fz (.int row)) s5 s6) := by
    rw [Int.zero_add]
    rfl
  rw [e0]
  simp only [Res.quiet_ok, thenF_ok]
  have hm : (0 : Int) < (ds.length : Int) - 1 := by omega
  have hix : (1 + (row : Int) % ((ds.length : Int) - 1)).toNat < ds.length := by
    have a := Int.emod_nonneg (row : Int) (show ((ds.length : Int) - 1) ≠ 0 by omega)
    have b := Int.emod_lt_of_pos (row : Int) hm
    omega
  have h0 : (0 : Int) ≤ 1 + (row : Int) % ((ds.length : Int) - 1) := by
    have a := Int.emod_nonneg (row : Int) (show ((ds.length : Int) - 1) ≠ 0 by omega)
    omega
  generalize hq : ds[(1 + (row : Int) % ((ds.length : Int) - 1)).toNat] = draw
  have hdraw := hd draw (by rw [← hq]; exact List.getElem_mem _)
  have ex : dIx (.lst (ds.map .int)) (.int (1 + (row : Int) % ((ds.length : Int) - 1))) = some (.int draw) := by
    rw [dIx_lst h0, List.getElem?_map, List.getElem?_eq_getElem hix, hq]
    rfl
  have ex0 : dIx (.lst (ds.map .int)) (.int 0) = some (.int ds[0]) := by
    rw [dIx_lst (by decide), List.getElem?_map]
    show Option.map D.int ds[0]? = _
    rw [List.getElem?_eq_getElem (by omega)]
    rfl
  have e1 : sSet 5 (mBI dInt [(mOp2 dIx (mVar 0) (mOp2 dAdd (mC (.int 1)) (mOp2 dMod (mVar 4) (mOp2 dSub (mBI dLen [(mVar 0)]) (mC (.int 1))))))]) (rst ds h w found (.fz (.int row)) s5 s6) = .nx (rst ds h w found (.fz (.int row)) (.fz (.int draw)) s6) := by
    simp [sSet, mBI, mArgs, mVar, rst, mOp2, mC, dMod_i hm, ex]
  let g : Nat → Nat := rowSign draw row ds[0]
  have e2 : mLc (mRng rng1 [(mVar 2)]) [6] (tgName 6) mYes (mIf (mT (mOp2 dLt (mOp2 dMod (mOp2 dDiv (mBI dInt [(mOp2 dAdd (mOp2 dAdd (mOp2 dMul (mVar 5) (mOp2 dAdd (mVar 6) (mC (.int 3)))) (mOp2 dMul (mVar 6) (mC (.int 37)))) (mOp2 dMul (mVar 4) (mC (.int 11))))]) (mC (.int 7))) (mC (.int 8))) (mOp2 dMod (mBI dInt [(mOp2 dIx (mVar 0) (mC (.int 0)))]) (mC (.int 4))))) (mC (.str "#")) (mC (.str "."))) (rst ds h w found (.fz (.int row)) (.fz (.int draw)) s6) = ok (.lst ((List.range w).map fun k => tx [g k])) := by
    refine lc_range (rng_nat rfl (by omega)) fun k hk => ?_
    have w1 : mVar 5 (((rst ds h w found (.fz (.int row)) (.fz (.int draw)) s6).set 6 .no).set 6 (.fz (.int (k : Int)))) = ok (.int draw) := rfl
    have w2 : mVar 6 (((rst ds h w found (.fz (.int row)) (.fz (.int draw)) s6).set 6 .no).set 6 (.fz (.int (k : Int)))) = ok (.int (k : Int)) := rfl
    have w3 : mVar 4 (((rst ds h w found (.fz (.int row)) (.fz (.int draw)) s6).set 6 .no).set 6 (.fz (.int (k : Int)))) = ok (.int (row : Int)) := rfl
    have w4 : mVar 0 (((rst ds h w found (.fz (.int row)) (.fz (.int draw)) s6).set 6 .no).set 6 (.fz (.int (k : Int)))) = ok (.lst (ds.map .int)) := rfl
    refine (if_ev (t_lt (i_mod (i_div (i_int (i_add (i_add (i_mulL w1 (i_add w2 rfl)) (i_mulR w2 rfl)) (i_mulR w3 rfl))) rfl) rfl) (i_mod (i_int (op2_ev w4 rfl ex0)) rfl)) (fun _ => rfl) (fun _ => rfl)).trans ?_
    show ok _ = ok (tx [rowSign draw row ds[0] k])
    unfold rowSign
    by_cases hc : (draw * ((k : Int) + (3 : Int)) + (k : Int) * (37 : Int) + (row : Int) * (11 : Int)) / (7 : Int) % (8 : Int) < (ds[0] : Int) % (4 : Int)
    · rw [if_pos hc, if_pos (decide_eq_true hc), lit_hash]
    · rw [if_neg hc, if_neg (by rw [decide_eq_false hc]; exact Bool.false_ne_true), lit_dot]
  have e3 : mM1 dJoin (mC (.str "")) (mLc (mRng rng1 [(mVar 2)]) [6] (tgName 6) mYes (mIf (mT (mOp2 dLt (mOp2 dMod (mOp2 dDiv (mBI dInt [(mOp2 dAdd (mOp2 dAdd (mOp2 dMul (mVar 5) (mOp2 dAdd (mVar 6) (mC (.int 3)))) (mOp2 dMul (mVar 6) (mC (.int 37)))) (mOp2 dMul (mVar 4) (mC (.int 11))))]) (mC (.int 7))) (mC (.int 8))) (mOp2 dMod (mBI dInt [(mOp2 dIx (mVar 0) (mC (.int 0)))]) (mC (.int 4))))) (mC (.str "#")) (mC (.str ".")))) (rst ds h w found (.fz (.int row)) (.fz (.int draw)) s6) = ok (tx ((List.range w).map g)) := by
    have : dJoin (tx []) (.lst ((List.range w).map fun k => tx [g k])) = some (tx ((List.range w).map g)) := dJoin_ones g _ (by rw [List.length_range]; omega)
    unfold mM1
    rw [e2]
    simp only [mC, Res.ok_bind, lit_nil, isS, if_true, this, ofO_some]
  refine ⟨(List.range w).map g, .fz (.int row), .fz (.int draw), s6, ?_, by simp, fun c hc => ?_⟩
  · simp only [sSeq, e1]
    unfold sApp
    show thenF (mM1 _ _ _ _) _ _ = _
    rw [e3]
    simp only [thenF_ok]
    rw [if_pos (by rw [List.length_map]; have := size1000; omega)]
    show Fl.nx _ = Fl.nx (rst ds h w (found ++ [(List.range w).map g]) _ _ _)
    unfold rst rowsL
    rw [List.map_append]
    rfl
  · obtain ⟨k, _, rfl⟩ := List.mem_map.mp hc
    show rowSign draw row ds[0] k = 35 ∨ rowSign draw row ds[0] k = 46
    unfold rowSign
    split
    · exact .inl rfl
    · exact .inr rfl
theorem rows_ok (ds : List Int) (h w : Nat) (hd : Drawn ds) (hl : 2 ≤ ds.length) (h1 : 1 ≤ h) (h2 : h ≤ 14) (w1 : 1 ≤ w) (w2 : w ≤ 14) :
    ∃ rows : List (List Nat), F__law_rows [.lst (ds.map .int), .int h, .int w] = ok (rowsD rows) ∧ OkRows rows h w ∧ ∃ l r, rows = (46 :: l) :: r := by
  have e1 : sSetO 3 (mLst []) (startS 7 [.lst (ds.map .int), .int h, .int w]) = .nx (rst ds h w [] .no .no .no) := rfl
  obtain ⟨ρ1, f1, found, s4, s5, s6, r1, r2, r3⟩ := forL_inv (xs := rangeD 0 h) (i := 0) (ρ := rst ds h w [] .no .no .no)
    (step := fun x ρ => thenF (tgName 4 x ρ).quiet ρ (sSeq (sSet 5 (mBI dInt [(mOp2 dIx (mVar 0) (mOp2 dAdd (mC (.int 1)) (mOp2 dMod (mVar 4) (mOp2 dSub (mBI dLen [(mVar 0)]) (mC (.int 1))))))]))
    (sApp 3 (mM1 dJoin (mC (.str "")) (mLc (mRng rng1 [(mVar 2)]) [6] (tgName 6) mYes (mIf (mT (mOp2 dLt (mOp2 dMod (mOp2 dDiv (mBI dInt [(mOp2 dAdd (mOp2 dAdd (mOp2 dMul (mVar 5) (mOp2 dAdd (mVar 6) (mC (.int 3)))) (mOp2 dMul (mVar 6) (mC (.int 37)))) (mOp2 dMul (mVar 4) (mC (.int 11))))]) (mC (.int 7))) (mC (.int 8))) (mOp2 dMod (mBI dInt [(mOp2 dIx (mVar 0) (mC (.int 0)))]) (mC (.int 4))))) (mC (.str "#")) (mC (.str "."))))))))
    (R := fun i ρ => ∃ found s4 s5 s6, ρ = rst ds h w found s4 s5 s6 ∧ found.length = i ∧ ∀ l ∈ found, l.length = w ∧ ∀ c ∈ l, c = 35 ∨ c = 46) (fun j x ρ hx ⟨found, s4, s5, s6, e, q1, q2⟩ => by
      have hj : j < h := by
        have := (List.getElem?_eq_some_iff.mp hx).1
        simpa [rangeD] using this
      rw [rangeD_map, List.getElem?_map] at hx
      obtain ⟨c, hc, rfl⟩ := Option.map_eq_some_iff.mp hx
      subst e
      obtain ⟨l, s4', s5', s6', z, z1, z2⟩ := rows_step ds h w found c s4 s5 s6 hd hl w2 (by omega)
      refine ⟨_, .inl z, found ++ [l], s4', s5', s6', rfl, by simp; omega, fun m hm => ?_⟩
      rcases List.mem_append.mp hm with hm | hm
      · exact q2 m hm
      · rw [List.mem_singleton.mp hm]; exact ⟨z1, z2⟩) ⟨[], .no, .no, .no, rfl, rfl, fun _ z => by simp at z⟩
  have hlen : found.length = h := by
    have : (rangeD 0 h).length = h := by simp [rangeD]
    omega
  obtain ⟨a, fr, rfl⟩ : ∃ a fr, found = a :: fr := by
    cases found with
    | nil => simp at hlen; omega
    | cons a fr => exact ⟨a, fr, rfl⟩
  obtain ⟨ha1, ha2⟩ := r3 a (by simp)
  refine ⟨(46 :: a.drop 1) :: fr, ?_, ⟨by simpa using hlen, fun l hl => ?_, fun l hl c hc => ?_, h1, h2, w1, w2⟩, _, _, rfl⟩
  · refine runF_rt ?_
    unfold b__law_rows
    have er : mRng rng1 [(mVar 1)] (rst ds h w [] .no .no .no) = ok (rangeD 0 h) := rng_nat rfl (by omega)
    simp only [sSeq, e1, sFor, er, thenF_ok, f1, r1]
    have x0 : dIx (.lst (rowsL (a :: fr))) (.int 0) = some (tx a) := by
      rw [dIx_lst (by decide)]
      rfl
    have x1 : dSl (tx a) (some 1) none = some (tx (a.drop 1)) := dSl_txFrom (by omega) (by decide)
    have x2 : dAdd (tx [46]) (tx (a.drop 1)) = some (tx (46 :: a.drop 1)) := dAdd_tx (by simp; omega)
    have x3 : dSl (.lst (rowsL (a :: fr))) (some 1) none = some (.lst (rowsL fr)) := by
      show some (D.lst (cutD (rowsL (a :: fr)) (some 1) none)) = _
      rw [cutD_from (by decide)]
      rfl
    have x4 : dAdd (.lst [tx (46 :: a.drop 1)]) (.lst (rowsL fr)) = some (.lst (rowsL ((46 :: a.drop 1) :: fr))) := by
      show (if [tx (46 :: a.drop 1)].length + (rowsL fr).length ≤ sizeLine then some (D.lst ([tx (46 :: a.drop 1)] ++ rowsL fr)) else none) = _
      rw [if_pos (by simp at hlen ⊢; have := size1000; omega)]
      rfl
    simp only [sRet, mBI, mArgs, mOp2, mLst, mSl, mVarB, rst, List.getElem?_cons_succ, List.getElem?_cons_zero, Res.ok_bind, mC, mPart, mNoPart, lit_dot, x0, asI_i, ofO_some, x1, x2, x3, x4, dTuple, thenF_ok]
  · rcases List.mem_cons.mp hl with e | e
    · rw [e]; simp; omega
    · exact (r3 l (by simp [e])).1
  · rcases List.mem_cons.mp hl with e | e
    · rw [e] at hc
      rcases List.mem_cons.mp hc with e2 | e2
      · exact .inr e2
      · exact ha2 c (List.mem_of_mem_drop e2)
    · exact (r3 l (by simp [e])).2 c hc
end PP

namespace K60
open PySem PySem.Spec PyProof.Rows L2 PP
open PP.Res (ok exc bad)
def top (i : Nat) : Stmt := PySem.Challenge.pw_mazemore_k60_words_and_reports.main.body.getD i (.Pass ⟨0, 0, 0, 0⟩)
def inClass (c : Stmt) (j : Nat) : Stmt := match c with
  | .ClassDef (body := b) .. => b.getD j (.Pass ⟨0, 0, 0, 0⟩)
  | _ => .Pass ⟨0, 0, 0, 0⟩
def excs : List Str := ["MazeError", "BadMaze", "BadCell", "BadWord"]
def supers : List (Str × List Str) := [("MazeError", ["MazeError", "ValueError"]), ("BadMaze", ["BadMaze", "MazeError", "ValueError"]), ("BadCell", ["BadCell", "MazeError", "ValueError"]), ("BadWord", ["BadWord", "MazeError", "ValueError"])]
def sub (c d : Str) : Bool := match supers.lookup c with
  | some l => l.contains d
  | none => false
def tb_OTHERS : List (Str × D) := [("#", .str "."), (".", .str "#")]
def tb_STEPS : List (Str × D) := [("d", .tup [.int 1, .int 0]), ("l", .tup [.int 0, .int (-1)]), ("r", .tup [.int 0, .int 1]), ("u", .tup [.int (-1), .int 0])]
/-- value least most -/
noncomputable def b_is_whole : Sls → Fl :=
    (sRet (mAndV (mBI dIsi [(mVar 0), (mC (.ty "int"))]) (mAndV (mNotV (mBI dIsi [(mVar 0), (mC (.ty "bool"))])) (mChain dLe dLe (mVar 1) (mVar 0) (mVar 2)))))
noncomputable def F_is_whole : List D → Res D := runF 3 3 b_is_whole
/-- self rows row sign -/
noncomputable def b_Maze : Sls → Fl :=
    (sSeq (sIf (mOr (mNot (mT (mBI dIsi [(mVar 1), (mC (.ty "tuple"))]))) (mOr (mNot (mT (mChain dLe dLe (mC (.int 1)) (mBI dLen [(mVar 1)]) (mC (.int 14))))) (mNot (mT (mBI dAll [(mLc (mIt (mVar 1)) [2] (tgName 2) mYes (mBI dIsi [(mVar 2), (mC (.ty "str"))]))]))))) (sRaise "BadMaze") sNx)
    (sSeq (sIf (mOr (mNot (mT (mChain dLe dLe (mC (.int 1)) (mBI dLen [(mOp2 dIx (mVar 1) (mC (.int 0)))]) (mC (.int 14))))) (mNot (mT (mBI dAll [(mLc (mIt (mVar 1)) [2] (tgName 2) mYes (mOp2 dEq (mBI dLen [(mVar 2)]) (mBI dLen [(mOp2 dIx (mVar 1) (mC (.int 0)))])))])))) (sRaise "BadMaze") sNx)
    (sSeq (sIf (mNot (mT (mBI dAll [(mLc (mIt (mVar 1)) [2] (tgName 2) mYes (mOp2 dEq (mBI dLen [(mLc (mIt (mVar 2)) [3] (tgName 3) (mT (mKNotIn tb_OTHERS (mVar 3))) (mVar 3))]) (mC (.int 0))))]))) (sRaise "BadMaze") sNx)
    (sSeq (sFldS 0 "Maze" "rows" (mVar 1))
    (sSeq (sFldS 0 "Maze" "height" (mBI dLen [(mVar 1)]))
    (sFldS 0 "Maze" "width" (mBI dLen [(mOp2 dIx (mVar 1) (mC (.int 0)))])))))))
noncomputable def I_Maze : Addr → List D → Res D := runI 4 1 "Maze" b_Maze
open Classical in
noncomputable def F_Maze (ds : List D) : Res D := if ∀ a, I_Maze a ds = I_Maze 0 ds then I_Maze 0 ds else bad
theorem hF_Maze (a : Addr) (ds : List D) (d : D) (h : F_Maze ds = ok d) : I_Maze a ds = ok d := by
  unfold F_Maze at h
  split at h
  · rename_i q
    rw [q a]; exact h
  · cases h
/-- maze value -/
noncomputable def b_is_cell : Sls → Fl :=
    (sSeq (sIf (mOr (mNot (mT (mBI dIsi [(mVar 1), (mC (.ty "tuple"))]))) (mT (mOp2 dNe (mBI dLen [(mVar 1)]) (mC (.int 2))))) (sRet (mC (.bl false))) sNx)
    (sRet (mAndV (mCall F_is_whole [(mOp2 dIx (mVar 1) (mC (.int 0))), (mC (.int 0)), (mOp2 dSub (mFld ["Maze"] "height" (mVar 0)) (mC (.int 1)))]) (mCall F_is_whole [(mOp2 dIx (mVar 1) (mC (.int 1))), (mC (.int 0)), (mOp2 dSub (mFld ["Maze"] "width" (mVar 0)) (mC (.int 1)))]))))
noncomputable def F_is_cell : List D → Res D := runF 2 2 b_is_cell
/-- maze cell -/
noncomputable def b_is_open : Sls → Fl :=
    (sRet (mAndV (mCall F_is_cell [(mVar 0), (mVar 1)]) (mOp2 dEq (mOp2 dIx (mOp2 dIx (mFld ["Maze"] "rows" (mVar 0)) (mOp2 dIx (mVar 1) (mC (.int 0)))) (mOp2 dIx (mVar 1) (mC (.int 1)))) (mC (.str ".")))))
noncomputable def F_is_open : List D → Res D := runF 2 2 b_is_open
/-- maze values value -/
noncomputable def b_check_open : Sls → Fl :=
    (sIf (mNot (mT (mBI dAll [(mLc (mIt (mVar 1)) [2] (tgName 2) mYes (mCall F_is_open [(mVar 0), (mVar 2)]))]))) (sRaise "BadCell") sNx)
noncomputable def F_check_open : List D → Res D := runF 3 2 b_check_open
/-- value sign -/
noncomputable def b_is_word : Sls → Fl :=
    (sRet (mAndV (mBI dIsi [(mVar 0), (mC (.ty "str"))]) (mBI dAll [(mLc (mIt (mVar 0)) [1] (tgName 1) mYes (mKIn tb_STEPS (mVar 1)))])))
noncomputable def F_is_word : List D → Res D := runF 2 1 b_is_word
/-- maze cell word -/
noncomputable def b__check : Sls → Fl :=
    (sSeq (sDrop (mCall F_check_open [(mVar 0), (mLst [(mVar 1)])]))
    (sIf (mNot (mT (mCall F_is_word [(mVar 2)]))) (sRaise "BadWord") sNx))
noncomputable def F__check : List D → Res D := runF 3 3 b__check
/-- maze cell sign down across there -/
noncomputable def b_stepped : Sls → Fl :=
    (sSeq (sAsg (tgTup 2 (tgsCons (tgName 3) (tgsCons (tgName 4) tgsNil))) (mKGet tb_STEPS (mVar 2)))
    (sSeq (sSet 5 (mTup [(mOp2 dAdd (mOp2 dIx (mVar 1) (mC (.int 0))) (mVar 3)), (mOp2 dAdd (mOp2 dIx (mVar 1) (mC (.int 1))) (mVar 4))]))
    (sRet (mIf (mT (mCall F_is_open [(mVar 0), (mVar 5)])) (mVar 5) (mVar 1)))))
noncomputable def F_stepped : List D → Res D := runF 6 3 b_stepped
/-- maze cell word sign -/
noncomputable def b_led : Sls → Fl :=
    (sSeq (sFor (mIt (mVar 2)) (tgName 3)
    (sSet 1 (mCall F_stepped [(mVar 0), (mVar 1), (mVar 3)])))
    (sRet (mVar 1)))
noncomputable def F_led : List D → Res D := runF 4 3 b_led
/-- maze cell word -/
noncomputable def b_gone : Sls → Fl :=
    (sSeq (sDrop (mCall F__check [(mVar 0), (mVar 1), (mVar 2)]))
    (sRet (mCall F_led [(mVar 0), (mVar 1), (mVar 2)])))
noncomputable def F_gone : List D → Res D := runF 3 3 b_gone
/-- maze cell word signs sign there -/
noncomputable def b_told : Sls → Fl :=
    (sSeq (sSet 3 (mC (.str "")))
    (sSeq (sFor (mIt (mVar 2)) (tgName 4)
    (sSeq (sSet 5 (mCall F_stepped [(mVar 0), (mVar 1), (mVar 4)]))
    (sSeq (sSet 3 (mOp2 dAdd (mVar 3) (mIf (mT (mOp2 dEq (mVar 5) (mVar 1))) (mC (.str "0")) (mC (.str "1")))))
    (sSet 1 (mVar 5)))))
    (sRet (mVar 3))))
noncomputable def F_told : List D → Res D := runF 6 3 b_told
/-- maze cell word -/
noncomputable def b_report : Sls → Fl :=
    (sSeq (sDrop (mCall F__check [(mVar 0), (mVar 1), (mVar 2)]))
    (sRet (mCall F_told [(mVar 0), (mVar 1), (mVar 2)])))
noncomputable def F_report : List D → Res D := runF 3 3 b_report
/-- script many draws seed cell number k -/
noncomputable def b__law_draws : Sls → Fl :=
    (sSeq (sSetO 2 (mLst []))
    (sSeq (sSet 3 (mC (.int 7)))
    (sSeq (sFor (mIt (mSl dSl (mVar 0) mNoPart (mPart (mC (.int 63))))) (tgName 4)
    (sSeq (sSet 5 (mBI dAbs [(mVar 4)]))
    (sSeq (sSet 3 (mOp2 dMod (mBI dInt [(mOp2 dAdd (mOp2 dAdd (mOp2 dMul (mVar 3) (mC (.int 48271))) (mVar 5)) (mC (.int 11)))]) (mC (.int 2147483647))))
    (sIf (mT (mOp2 dGe (mVar 5) (mOp2 dPow (mC (.int 10)) (mC (.int 18))))) (sFor (mRng rng1 [(mC (.int 60))]) (tgName 6)
    (sIf (mT (mOp2 dGt (mVar 5) (mC (.int 0)))) (sSeq (sApp 2 (mOp2 dMod (mBI dInt [(mVar 5)]) (mC (.int 1009))))
    (sSet 5 (mOp2 dDiv (mVar 5) (mC (.int 1009))))) sNx)) (sApp 2 (mOp2 dMod (mOp2 dDiv (mBI dInt [(mOp2 dAdd (mOp2 dMul (mVar 3) (mC (.int 16807))) (mC (.int 5)))]) (mC (.int 3))) (mC (.int 65521))))))))
    (sSeq (sFor (mRng rng1 [(mVar 1)]) (tgName 6)
    (sIf (mT (mOp2 dLt (mBI dLen [(mVarB 2)]) (mVar 1))) (sSeq (sSet 3 (mOp2 dMod (mBI dInt [(mOp2 dAdd (mOp2 dAdd (mOp2 dMul (mVar 3) (mC (.int 69621))) (mVar 6)) (mC (.int 1)))]) (mC (.int 2147483647))))
    (sApp 2 (mOp2 dMod (mOp2 dDiv (mBI dInt [(mVar 3)]) (mC (.int 7))) (mC (.int 65521))))) sNx))
    (sRet (mSl dSl (mVarB 2) mNoPart (mPart (mVar 1))))))))
noncomputable def F__law_draws : List D → Res D := runF 7 2 b__law_draws
/-- draws high wide found row draw k -/
noncomputable def b__law_rows : Sls → Fl :=
    (sSeq (sSetO 3 (mLst []))
    (sSeq (sFor (mRng rng1 [(mVar 1)]) (tgName 4)
    (sSeq (sSet 5 (mBI dInt [(mOp2 dIx (mVar 0) (mOp2 dAdd (mC (.int 1)) (mOp2 dMod (mVar 4) (mOp2 dSub (mBI dLen [(mVar 0)]) (mC (.int 1))))))]))
    (sApp 3 (mM1 dJoin (mC (.str "")) (mLc (mRng rng1 [(mVar 2)]) [6] (tgName 6) mYes (mIf (mT (mOp2 dLt (mOp2 dMod (mOp2 dDiv (mBI dInt [(mOp2 dAdd (mOp2 dAdd (mOp2 dMul (mVar 5) (mOp2 dAdd (mVar 6) (mC (.int 3)))) (mOp2 dMul (mVar 6) (mC (.int 37)))) (mOp2 dMul (mVar 4) (mC (.int 11))))]) (mC (.int 7))) (mC (.int 8))) (mOp2 dMod (mBI dInt [(mOp2 dIx (mVar 0) (mC (.int 0)))]) (mC (.int 4))))) (mC (.str "#")) (mC (.str "."))))))))
    (sRet (mBI dTuple [(mOp2 dAdd (mLst [(mOp2 dAdd (mC (.str ".")) (mSl dSl (mOp2 dIx (mVarB 3) (mC (.int 0))) (mPart (mC (.int 1))) mNoPart))]) (mSl dSl (mVarB 3) (mPart (mC (.int 1))) mNoPart))]))))
noncomputable def F__law_rows : List D → Res D := runF 7 3 b__law_rows
/-- rows found row k -/
noncomputable def b__law_cells : Sls → Fl :=
    (sSeq (sSet 1 (mLst []))
    (sSeq (sFor (mRng rng1 [(mBI dLen [(mVar 0)])]) (tgName 2)
    (sSet 1 (mOp2 dAdd (mVar 1) (mLc (mRng rng1 [(mBI dLen [(mOp2 dIx (mVar 0) (mC (.int 0)))])]) [3] (tgName 3) (mT (mOp2 dEq (mOp2 dIx (mOp2 dIx (mVar 0) (mVar 2)) (mVar 3)) (mC (.str ".")))) (mTup [(mVar 2), (mVar 3)])))))
    (sRet (mBI dTuple [(mVar 1)]))))
noncomputable def F__law_cells : List D → Res D := runF 4 1 b__law_cells
/-- rows cell found step there -/
noncomputable def b__law_near : Sls → Fl :=
    (sSeq (sSetO 2 (mLst []))
    (sSeq (sFor (mIt (mLst [(mTup [(mOp1 dNeg (mC (.int 1))), (mC (.int 0))]), (mTup [(mC (.int 0)), (mOp1 dNeg (mC (.int 1)))]), (mTup [(mC (.int 0)), (mC (.int 1))]), (mTup [(mC (.int 1)), (mC (.int 0))])])) (tgName 3)
    (sSeq (sSet 4 (mTup [(mOp2 dAdd (mOp2 dIx (mVar 1) (mC (.int 0))) (mOp2 dIx (mVar 3) (mC (.int 0)))), (mOp2 dAdd (mOp2 dIx (mVar 1) (mC (.int 1))) (mOp2 dIx (mVar 3) (mC (.int 1))))]))
    (sIf (mAnd (mT (mChain dLe dLt (mC (.int 0)) (mOp2 dIx (mVar 4) (mC (.int 0))) (mBI dLen [(mVar 0)]))) (mAnd (mT (mChain dLe dLt (mC (.int 0)) (mOp2 dIx (mVar 4) (mC (.int 1))) (mBI dLen [(mOp2 dIx (mVar 0) (mC (.int 0)))]))) (mT (mOp2 dEq (mOp2 dIx (mOp2 dIx (mVar 0) (mOp2 dIx (mVar 4) (mC (.int 0)))) (mOp2 dIx (mVar 4) (mC (.int 1)))) (mC (.str ".")))))) (sApp 2 (mVar 4)) sNx)))
    (sFrz 2 (sRet (mVar 2)))))
noncomputable def F__law_near : List D → Res D := runF 5 2 b__law_near
/-- rows cell sign step there -/
noncomputable def b__law_step : Sls → Fl :=
    (sSeq (sSet 3 (mDispGet [("d", (mTup [(mC (.int 1)), (mC (.int 0))])), ("l", (mTup [(mC (.int 0)), (mOp1 dNeg (mC (.int 1)))])), ("r", (mTup [(mC (.int 0)), (mC (.int 1))])), ("u", (mTup [(mOp1 dNeg (mC (.int 1))), (mC (.int 0))]))] (mVar 2)))
    (sSeq (sSet 4 (mTup [(mOp2 dAdd (mOp2 dIx (mVar 1) (mC (.int 0))) (mOp2 dIx (mVar 3) (mC (.int 0)))), (mOp2 dAdd (mOp2 dIx (mVar 1) (mC (.int 1))) (mOp2 dIx (mVar 3) (mC (.int 1))))]))
    (sRet (mIf (mT (mOp2 dIn (mVar 4) (mCall F__law_near [(mVar 0), (mVar 1)]))) (mVar 4) (mVar 1)))))
noncomputable def F__law_step : List D → Res D := runF 5 3 b__law_step
/-- rows cell word told_v sign there -/
noncomputable def b__law_led : Sls → Fl :=
    (sSeq (sSet 3 (mC (.str "")))
    (sSeq (sFor (mIt (mVar 2)) (tgName 4)
    (sSeq (sSet 5 (mCall F__law_step [(mVar 0), (mVar 1), (mVar 4)]))
    (sPar 1 3 (mVar 5) (mOp2 dAdd (mVar 3) (mIf (mT (mOp2 dEq (mVar 5) (mVar 1))) (mC (.str "0")) (mC (.str "1")))))))
    (sRet (mTup [(mVar 1), (mVar 3)]))))
noncomputable def F__law_led : List D → Res D := runF 6 3 b__law_led
/-- way maze cell word e -/
noncomputable def b__law_error : Sls → Fl :=
    (sSeq (sTry excs sub (sIf (mT (mOp2 dEq (mVar 0) (mC (.int 0)))) (sDrop (mCall F_gone [(mVar 1), (mVar 2), (mVar 3)])) (sDrop (mCall F_report [(mVar 1), (mVar 2), (mVar 3)]))) [⟨"BadCell", some 4, (fun c => sRet (if sub c "BadWord" then (mC (.str "mixed")) else (mC (.str "cell"))))⟩, ⟨"MazeError", some 4, (fun c => sRet (if sub c "BadWord" then (mC (.str "word")) else (mC (.str "other"))))⟩])
    (sRet (mC (.str "none"))))
noncomputable def F__law_error : List D → Res D := runF 5 4 b__law_error
/-- script draws turn rows maze cells k cell draw word there told_v at kept back wrong n sign -/
noncomputable def b_law : Sls → Fl :=
    (sSeq (sSet 1 (mCall F__law_draws [(mVar 0), (mC (.int 60))]))
    (sSeq (sFor (mRng rng1 [(mC (.int 3))]) (tgName 2)
    (sSeq (sSet 3 (mCall F__law_rows [(mSl dSl (mVar 1) (mPart (mOp2 dAdd (mC (.int 3)) (mOp2 dMul (mC (.int 9)) (mVar 2)))) (mPart (mOp2 dAdd (mC (.int 14)) (mOp2 dMul (mC (.int 9)) (mVar 2))))), (mOp2 dAdd (mC (.int 1)) (mOp2 dMod (mBI dInt [(mOp2 dIx (mVar 1) (mVar 2))]) (mC (.int 9)))), (mOp2 dAdd (mC (.int 1)) (mOp2 dMod (mOp2 dDiv (mBI dInt [(mOp2 dIx (mVar 1) (mVar 2))]) (mC (.int 9))) (mC (.int 9))))]))
    (sSeq (sPar 4 5 (mMake F_Maze [(mVar 3)]) (mCall F__law_cells [(mVar 3)]))
    (sSeq (sFor (mRng rng1 [(mC (.int 6))]) (tgName 6)
    (sSeq (sAsg (tgTup 2 (tgsCons (tgName 7) (tgsCons (tgName 8) tgsNil))) (mTup [(mOp2 dIx (mVar 5) (mOp2 dMod (mBI dInt [(mOp2 dIx (mVar 1) (mOp2 dAdd (mC (.int 34)) (mVar 6)))]) (mBI dLen [(mVar 5)]))), (mBI dInt [(mOp2 dIx (mVar 1) (mOp2 dAdd (mC (.int 40)) (mVar 6)))])]))
    (sSeq (sSet 9 (mM1 dJoin (mC (.str "")) (mLc (mRng rng1 [(mOp2 dMod (mVar 8) (mC (.int 31)))]) [16] (tgName 16) mYes (mOp2 dIx (mC (.str "dlru")) (mOp2 dMod (mOp2 dDiv (mVar 8) (mOp2 dAdd (mVar 16) (mC (.int 1)))) (mC (.int 4)))))))
    (sSeq (sAsg (tgTup 2 (tgsCons (tgName 10) (tgsCons (tgName 11) tgsNil))) (mCall F__law_led [(mVar 3), (mVar 7), (mVar 9)]))
    (sSeq (sIf (mOr (mT (mOp2 dNe (mCall F_gone [(mVar 4), (mVar 7), (mVar 9)]) (mVar 10))) (mT (mOp2 dNe (mCall F_report [(mVar 4), (mVar 7), (mVar 9)]) (mVar 11)))) (sRet (mC (.bl false))) sNx)
    (sSeq (sSet 12 (mOp2 dMod (mOp2 dDiv (mVar 8) (mC (.int 31))) (mOp2 dAdd (mBI dLen [(mVar 9)]) (mC (.int 1)))))
    (sSeq (sIf (mOr (mT (mOp2 dNe (mCall F_gone [(mVar 4), (mCall F_gone [(mVar 4), (mVar 7), (mSl dSl (mVar 9) mNoPart (mPart (mVar 12)))]), (mSl dSl (mVar 9) (mPart (mVar 12)) mNoPart)]) (mVar 10))) (mT (mOp2 dNe (mOp2 dAdd (mCall F_report [(mVar 4), (mVar 7), (mSl dSl (mVar 9) mNoPart (mPart (mVar 12)))]) (mCall F_report [(mVar 4), (mCall F_gone [(mVar 4), (mVar 7), (mSl dSl (mVar 9) mNoPart (mPart (mVar 12)))]), (mSl dSl (mVar 9) (mPart (mVar 12)) mNoPart)])) (mVar 11)))) (sRet (mC (.bl false))) sNx)
    (sSeq (sSet 13 (mM1 dJoin (mC (.str "")) (mLc (mRng rng1 [(mBI dLen [(mVar 9)])]) [16] (tgName 16) (mT (mOp2 dEq (mOp2 dIx (mVar 11) (mVar 16)) (mC (.str "1")))) (mOp2 dIx (mVar 9) (mVar 16)))))
    (sSeq (sSet 14 (mM1 dJoin (mC (.str "")) (mLc (mIt (mOp1 dRevS (mVar 13))) [17] (tgName 17) mYes (mDispGet [("d", (mC (.str "u"))), ("u", (mC (.str "d"))), ("l", (mC (.str "r"))), ("r", (mC (.str "l")))] (mVar 17)))))
    (sIf (mOr (mT (mOp2 dNe (mCall F_gone [(mVar 4), (mVar 7), (mVar 13)]) (mVar 10))) (mOr (mT (mOp2 dNe (mCall F_gone [(mVar 4), (mVar 10), (mVar 14)]) (mVar 7))) (mT (mOp2 dIn (mC (.str "0")) (mCall F_report [(mVar 4), (mVar 10), (mVar 14)]))))) (sRet (mC (.bl false))) sNx))))))))))
    (sSeq (sFor (mIt (mLst [(mC .non), (mC (.int 7)), (mLst [(mC (.str "d"))]), (mC (.str "D")), (mC (.str "d ")), (mTup [(mC (.str "d"))]), (mC (.bl true))])) (tgName 15)
    (sIf (mOr (mT (mOp2 dNe (mCall F__law_error [(mC (.int 0)), (mVar 4), (mOp2 dIx (mVar 5) (mC (.int 0))), (mVar 15)]) (mC (.str "word")))) (mT (mOp2 dNe (mCall F__law_error [(mC (.int 1)), (mVar 4), (mOp2 dIx (mVar 5) (mC (.int 0))), (mVar 15)]) (mC (.str "word"))))) (sRet (mC (.bl false))) sNx))
    (sFor (mIt (mLst [(mC .non), (mTup [(mC (.int 99)), (mC (.int 0))]), (mTup [(mC (.int 0)), (mOp1 dNeg (mC (.int 1)))]), (mTup [(mC (.int 0))]), (mLst [(mC (.int 0)), (mC (.int 0))]), (mTup [(mC (.bl true)), (mC (.int 0))]), (mTup [(mC (.int 0)), (mC (.int 0)), (mC (.int 0))])])) (tgName 15)
    (sIf (mOr (mT (mOp2 dNe (mCall F__law_error [(mC (.int 0)), (mVar 4), (mVar 15), (mC .non)]) (mC (.str "cell")))) (mT (mOp2 dNe (mCall F__law_error [(mC (.int 1)), (mVar 4), (mVar 15), (mC .non)]) (mC (.str "cell"))))) (sRet (mC (.bl false))) sNx)))))))
    (sRet (mAndV (mOp2 dEq (mCall F_gone [(mMake F_Maze [(mTup [(mC (.str "..."))])]), (mTup [(mC (.int 0)), (mC (.int 2))]), (mC (.str "ll"))]) (mTup [(mC (.int 0)), (mC (.int 0))])) (mOp2 dEq (mCall F_report [(mMake F_Maze [(mTup [(mC (.str "..."))])]), (mTup [(mC (.int 0)), (mC (.int 2))]), (mC (.str "llll"))]) (mC (.str "1100")))))))
noncomputable def F_law : List D → Res D := runF 18 1 b_law
structure Facts (w : World) (K : PySem.W.Frag) (mg : Str → Option Value) : Prop where
  d_Maze : DefK K (inClass (top 10) 0) "__init__" "Maze.__init__" (He.ma K (He.ga K "Maze") "__init__") ["self", "rows"]
  d__check : DefK K (top 17) "_check" "_check" (He.ga K "_check") ["maze", "cell", "word"]
  d__law_cells : DefK K (top 26) "_law_cells" "_law_cells" (He.ga K "_law_cells") ["rows"]
  d__law_draws : DefK K (top 24) "_law_draws" "_law_draws" (He.ga K "_law_draws") ["script", "many"]
  d__law_error : DefK K (top 30) "_law_error" "_law_error" (He.ga K "_law_error") ["way", "maze", "cell", "word"]
  d__law_led : DefK K (top 29) "_law_led" "_law_led" (He.ga K "_law_led") ["rows", "cell", "word"]
  d__law_near : DefK K (top 27) "_law_near" "_law_near" (He.ga K "_law_near") ["rows", "cell"]
  d__law_rows : DefK K (top 25) "_law_rows" "_law_rows" (He.ga K "_law_rows") ["draws", "high", "wide"]
  d__law_step : DefK K (top 28) "_law_step" "_law_step" (He.ga K "_law_step") ["rows", "cell", "sign"]
  d_check_open : DefK K (top 13) "check_open" "check_open" (He.ga K "check_open") ["maze", "values"]
  d_gone : DefK K (top 20) "gone" "gone" (He.ga K "gone") ["maze", "cell", "word"]
  d_is_cell : DefK K (top 11) "is_cell" "is_cell" (He.ga K "is_cell") ["maze", "value"]
  d_is_open : DefK K (top 12) "is_open" "is_open" (He.ga K "is_open") ["maze", "cell"]
  d_is_whole : DefK K (top 9) "is_whole" "is_whole" (He.ga K "is_whole") ["value", "least", "most"]
  d_is_word : DefK K (top 16) "is_word" "is_word" (He.ga K "is_word") ["value"]
  d_law : DefK K (top 31) "law" "law" (He.ga K "law") ["script"]
  d_led : DefK K (top 19) "led" "led" (He.ga K "led") ["maze", "cell", "word"]
  d_report : DefK K (top 22) "report" "report" (He.ga K "report") ["maze", "cell", "word"]
  d_stepped : DefK K (top 18) "stepped" "stepped" (He.ga K "stepped") ["maze", "cell", "sign"]
  d_told : DefK K (top 21) "told" "told" (He.ga K "told") ["maze", "cell", "word"]
  exm_BadCell : ExmOk K excs sub "BadCell"
  exm_MazeError : ExmOk K excs sub "MazeError"
  fld_Maze_height : FldOk K "height" "Maze"
  fld_Maze_rows : FldOk K "rows" "Maze"
  fld_Maze_width : FldOk K "width" "Maze"
  b_abs : mg "abs" = none
  b_all : mg "all" = none
  b_bool : mg "bool" = none
  b_int : mg "int" = none
  b_isinstance : mg "isinstance" = none
  b_len : mg "len" = none
  b_range : mg "range" = none
  b_str : mg "str" = none
  b_tuple : mg "tuple" = none
  g_BadCell : mg "BadCell" = some (.ref (He.ga K "BadCell"))
  g_BadWord : mg "BadWord" = some (.ref (He.ga K "BadWord"))
  g_Maze : mg "Maze" = some (.ref (He.ga K "Maze"))
  g_MazeError : mg "MazeError" = some (.ref (He.ga K "MazeError"))
  g_OTHERS : mg "OTHERS" = some (.ref (He.ga K "OTHERS"))
  g_STEPS : mg "STEPS" = some (.ref (He.ga K "STEPS"))
  g__check : mg "_check" = some (.ref (He.ga K "_check"))
  g__law_cells : mg "_law_cells" = some (.ref (He.ga K "_law_cells"))
  g__law_draws : mg "_law_draws" = some (.ref (He.ga K "_law_draws"))
  g__law_error : mg "_law_error" = some (.ref (He.ga K "_law_error"))
  g__law_led : mg "_law_led" = some (.ref (He.ga K "_law_led"))
  g__law_near : mg "_law_near" = some (.ref (He.ga K "_law_near"))
  g__law_rows : mg "_law_rows" = some (.ref (He.ga K "_law_rows"))
  g__law_step : mg "_law_step" = some (.ref (He.ga K "_law_step"))
  g_check_open : mg "check_open" = some (.ref (He.ga K "check_open"))
  g_gone : mg "gone" = some (.ref (He.ga K "gone"))
  g_is_cell : mg "is_cell" = some (.ref (He.ga K "is_cell"))
  g_is_open : mg "is_open" = some (.ref (He.ga K "is_open"))
  g_is_whole : mg "is_whole" = some (.ref (He.ga K "is_whole"))
  g_is_word : mg "is_word" = some (.ref (He.ga K "is_word"))
  g_law : mg "law" = some (.ref (He.ga K "law"))
  g_led : mg "led" = some (.ref (He.ga K "led"))
  g_report : mg "report" = some (.ref (He.ga K "report"))
  g_stepped : mg "stepped" = some (.ref (He.ga K "stepped"))
  g_told : mg "told" = some (.ref (He.ga K "told"))
  i_MOST : ∃ t, mg "MOST" = some (.int 14 t)
  kit_BadWord : IsiOk K excs sub "BadWord"
  mk_Maze : Mk K (He.ga K "Maze") (He.ma K (He.ga K "Maze") "__init__")
  ra_BadCell : ExcF K mg "BadCell"
  ra_BadMaze : ExcF K mg "BadMaze"
  ra_BadWord : ExcF K mg "BadWord"
  s_OPEN : ∃ t, mg "OPEN" = some (.str "." t)
  t_OTHERS : KTab K w "OTHERS" tb_OTHERS
  t_STEPS : KTab K w "STEPS" tb_STEPS
section
variable {P : Program} {w : World} {K : PySem.W.Frag} {mg : Str → Option Value} {base : Heap}
theorem S_is_whole : FnScope ["value", "least", "most"] ["value", "least", "most"] (defScope (top 9)) := ⟨rfl, rfl, rfl, by decide +kernel, rfl, by decide +kernel, by decide +kernel⟩
theorem ok_is_whole (T : Facts w K mg) : FnP P w K mg base 1 (He.ga K "is_whole") ["value", "least", "most"] (spF K F_is_whole) := by
  refine T.d_is_whole.f S_is_whole fun cdv A outer s H E hr => ?_
  have tk := L2.takes_of (X := cxOf (L2.CX P w) P w K mg base ["value", "least", "most"] "is_whole" (defScope (top 9)) (He.ga K "is_whole") cdv A outer s H E) rfl rfl rfl rfl
  have hx := fun σ => L2.passAt tk σ
  have own := L2.passes_of (X := cxOf (L2.CX P w) P w K mg base ["value", "least", "most"] "is_whole" (defScope (top 9)) (He.ga K "is_whole") cdv A outer s H E) rfl
  exact (ss_one (ss_ret (ef_and (ef_bi call_isi c_isi T.b_isinstance (ec_cons ((ef_var 0)).b (ec_cons ((ef_bty T.b_int)).b ec_nil))) (ef_and (ef_not (ef_bi call_isi c_isi T.b_isinstance (ec_cons ((ef_var 0)).b (ec_cons ((ef_bty T.b_bool)).b ec_nil)))) (ef_one (ef_chain op_le op_le o_le o_le ((ef_var 1)).b ((ef_var 0)).b ((ef_var 2)).b))))))
theorem S_Maze : FnScope ["self", "rows", "row", "sign"] ["self", "rows"] (defScope (inClass (top 10) 0)) := ⟨rfl, rfl, rfl, by decide +kernel, rfl, by decide +kernel, by decide +kernel⟩
theorem ok_Maze (T : Facts w K mg) : FnP P w K mg base 1 (He.ma K (He.ga K "Maze") "__init__") ["self", "rows"] (spI K "Maze" I_Maze) := by
  refine T.d_Maze.i S_Maze (n := 3) rfl fun cdv A outer s H E hr => ?_
  have tk := L2.takes_of (X := cxOf (L2.CX P w) P w K mg base ["self", "rows", "row", "sign"] "Maze.__init__" (defScope (inClass (top 10) 0)) (He.ma K (He.ga K "Maze") "__init__") cdv A outer s H E) rfl rfl rfl rfl
  have hx := fun σ => L2.passAt tk σ
  have own := L2.passes_of (X := cxOf (L2.CX P w) P w K mg base ["self", "rows", "row", "sign"] "Maze.__init__" (defScope (inClass (top 10) 0)) (He.ma K (He.ga K "Maze") "__init__") cdv A outer s H E) rfl
  exact (ss_cons (ss_if (ew_or (et_not (et_val (ef_bi call_isi c_isi T.b_isinstance (ec_cons ((ef_var 1)).b (ec_cons ((ef_bty T.b_tuple)).b ec_nil))))) (ew_or (et_not (et_chain op_le op_le o_le o_le (ef_int).b ((ef_bi call_len c_len T.b_len (ec_cons ((ef_var 1)).b ec_nil))).b ((ef_gint T.i_MOST)).b)) (ew_or1 (et_not (et_val (ef_bi (cr_all rfl) c_all T.b_all (ec_cons ((en_lc rfl S_Maze.nd (ei_any (ef_var 1)) (blkOk_by (own := [("row", 2)]) (by kernel_rfl)) (tg_name 2) (fun _ _ _ _ _ => (pg_name (i := 2) S_Maze.nd rfl (by first | exact Or.inl rfl | exact Or.inr rfl))) (fun _ _ _ _ _ => ets_nil) (fun _ _ _ _ _ => (ef_bi call_isi c_isi T.b_isinstance (ec_cons ((ef_var 2)).b (ec_cons ((ef_bty T.b_str)).b ec_nil)))))).b ec_nil))))))).t (ss_one (ss_raiseE rfl tk T.ra_BadMaze.ra)) ss_nil)
    (ss_cons (ss_if (ew_or (et_not (et_chain op_le op_le o_le o_le (ef_int).b ((ef_bi call_len c_len T.b_len (ec_cons ((ef_ix ix_seq o_ix ((ef_var 1)).b (ef_int).b)).b ec_nil))).b ((ef_gint T.i_MOST)).b)) (ew_or1 (et_not (et_val (ef_bi (cr_all rfl) c_all T.b_all (ec_cons ((en_lc rfl S_Maze.nd (ei_any (ef_var 1)) (blkOk_by (own := [("row", 2)]) (by kernel_rfl)) (tg_name 2) (fun _ _ _ _ _ => (pg_name (i := 2) S_Maze.nd rfl (by first | exact Or.inl rfl | exact Or.inr rfl))) (fun _ _ _ _ _ => ets_nil) (fun _ _ _ _ _ => (ef_cmp (op_eqA hr.units) o_eq ((ef_bi call_len c_len T.b_len (ec_cons ((ef_var 2)).b ec_nil))).b ((ef_bi call_len c_len T.b_len (ec_cons ((ef_ix ix_seq o_ix ((ef_var 1)).b (ef_int).b)).b ec_nil))).b rfl)))).b ec_nil)))))).t (ss_one (ss_raiseE rfl tk T.ra_BadMaze.ra)) ss_nil)
    (ss_cons (ss_if (et_not (et_val (ef_bi (cr_all rfl) c_all T.b_all (ec_cons ((en_lc rfl S_Maze.nd (ei_any (ef_var 1)) (blkOk_by (own := [("row", 2)]) (by kernel_rfl)) (tg_name 2) (fun _ _ _ _ _ => (pg_name (i := 2) S_Maze.nd rfl (by first | exact Or.inl rfl | exact Or.inr rfl))) (fun _ _ _ _ _ => ets_nil) (fun _ _ _ _ _ => (ef_cmp (op_eqA hr.units) o_eq ((ef_bi call_len c_len T.b_len (ec_cons ((en_lc rfl S_Maze.nd (ei_any (ef_var 2)) (blkOk_by (own := [("sign", 3)]) (by kernel_rfl)) (tg_name 3) (fun _ _ _ _ _ => (pg_name (i := 3) S_Maze.nd rfl (by first | exact Or.inl rfl | exact Or.inr rfl))) (fun _ _ _ _ _ => (ets_one (et_knotin T.t_OTHERS T.g_OTHERS (ef_var 3)))) (fun _ _ _ _ _ => (ef_var 3)))).b ec_nil))).b (ef_int).b rfl)))).b ec_nil)))) (ss_one (ss_raiseE rfl tk T.ra_BadMaze.ra)) ss_nil)
    (ss_cons (ss_fld 0 T.fld_Maze_rows (ef_var 1))
    (ss_cons (ss_fld 0 T.fld_Maze_height (ef_bi call_len c_len T.b_len (ec_cons ((ef_var 1)).b ec_nil)))
    (ss_one (ss_fld 0 T.fld_Maze_width (ef_bi call_len c_len T.b_len (ec_cons ((ef_ix ix_seq o_ix ((ef_var 1)).b (ef_int).b)).b ec_nil)))))))))
theorem S_is_cell : FnScope ["maze", "value"] ["maze", "value"] (defScope (top 11)) := ⟨rfl, rfl, rfl, by decide +kernel, rfl, by decide +kernel, by decide +kernel⟩
theorem ok_is_cell (T : Facts w K mg) : FnP P w K mg base 2 (He.ga K "is_cell") ["maze", "value"] (spF K F_is_cell) := by
  obtain ⟨⟨fd_is_whole, G_is_whole, b_is_whole, _⟩, kp_is_whole⟩ := ok_is_whole T (P := P) (base := base)
  refine T.d_is_cell.f S_is_cell fun cdv A outer s H E hr => ?_
  have tk := L2.takes_of (X := cxOf (L2.CX P w) P w K mg base ["maze", "value"] "is_cell" (defScope (top 11)) (He.ga K "is_cell") cdv A outer s H E) rfl rfl rfl rfl
  have hx := fun σ => L2.passAt tk σ
  have own := L2.passes_of (X := cxOf (L2.CX P w) P w K mg base ["maze", "value"] "is_cell" (defScope (top 11)) (He.ga K "is_cell") cdv A outer s H E) rfl
  exact (ss_cons (ss_if (ew_or (et_not (et_val (ef_bi call_isi c_isi T.b_isinstance (ec_cons ((ef_var 1)).b (ec_cons ((ef_bty T.b_tuple)).b ec_nil))))) (ew_or1 (et_cmp (op_neA hr.units) o_ne ((ef_bi call_len c_len T.b_len (ec_cons ((ef_var 1)).b ec_nil))).b (ef_int).b rfl))).t (ss_one (ss_ret ef_bl)) ss_nil)
    (ss_one (ss_ret (ef_and (ef_call G_is_whole (hr.mono (by decide : 1 ≤ 1)) T.g_is_whole kp_is_whole b_is_whole hx (ea_cons (ef_ix ix_seq o_ix ((ef_var 1)).b (ef_int).b) (ea_cons ef_int (ea_cons (ef_op op_sub o_sub ((ef_fld (cons_of T.fld_Maze_height none_of) ((ef_var 0)).b)).b (ef_int).b) ea_nil)))) (ef_one (ef_call G_is_whole (hr.mono (by decide : 1 ≤ 1)) T.g_is_whole kp_is_whole b_is_whole hx (ea_cons (ef_ix ix_seq o_ix ((ef_var 1)).b (ef_int).b) (ea_cons ef_int (ea_cons (ef_op op_sub o_sub ((ef_fld (cons_of T.fld_Maze_width none_of) ((ef_var 0)).b)).b (ef_int).b) ea_nil)))))))))
theorem S_is_open : FnScope ["maze", "cell"] ["maze", "cell"] (defScope (top 12)) := ⟨rfl, rfl, rfl, by decide +kernel, rfl, by decide +kernel, by decide +kernel⟩
theorem ok_is_open (T : Facts w K mg) : FnP P w K mg base 3 (He.ga K "is_open") ["maze", "cell"] (spF K F_is_open) := by
  obtain ⟨⟨fd_is_cell, G_is_cell, b_is_cell, _⟩, kp_is_cell⟩ := ok_is_cell T (P := P) (base := base)
  refine T.d_is_open.f S_is_open fun cdv A outer s H E hr => ?_
  have tk := L2.takes_of (X := cxOf (L2.CX P w) P w K mg base ["maze", "cell"] "is_open" (defScope (top 12)) (He.ga K "is_open") cdv A outer s H E) rfl rfl rfl rfl
  have hx := fun σ => L2.passAt tk σ
  have own := L2.passes_of (X := cxOf (L2.CX P w) P w K mg base ["maze", "cell"] "is_open" (defScope (top 12)) (He.ga K "is_open") cdv A outer s H E) rfl
  exact (ss_one (ss_ret (ef_and (ef_call G_is_cell (hr.mono (by decide : 2 ≤ 2)) T.g_is_cell kp_is_cell b_is_cell hx (ea_cons (ef_var 0) (ea_cons (ef_var 1) ea_nil))) (ef_one (ef_cmp (op_eqA hr.units) o_eq ((ef_ix ix_seq o_ix ((ef_ix ix_seq o_ix ((ef_fld (cons_of T.fld_Maze_rows none_of) ((ef_var 0)).b)).b ((ef_ix ix_seq o_ix ((ef_var 1)).b (ef_int).b)).b)).b ((ef_ix ix_seq o_ix ((ef_var 1)).b (ef_int).b)).b)).b ((ef_gstr T.s_OPEN)).b rfl)))))
theorem S_check_open : FnScope ["maze", "values", "value"] ["maze", "values"] (defScope (top 13)) := ⟨rfl, rfl, rfl, by decide +kernel, rfl, by decide +kernel, by decide +kernel⟩
theorem ok_check_open (T : Facts w K mg) : FnP P w K mg base 4 (He.ga K "check_open") ["maze", "values"] (spF K F_check_open) := by
  obtain ⟨⟨fd_is_open, G_is_open, b_is_open, _⟩, kp_is_open⟩ := ok_is_open T (P := P) (base := base)
  refine T.d_check_open.f S_check_open fun cdv A outer s H E hr => ?_
  have tk := L2.takes_of (X := cxOf (L2.CX P w) P w K mg base ["maze", "values", "value"] "check_open" (defScope (top 13)) (He.ga K "check_open") cdv A outer s H E) rfl rfl rfl rfl
  have hx := fun σ => L2.passAt tk σ
  have own := L2.passes_of (X := cxOf (L2.CX P w) P w K mg base ["maze", "values", "value"] "check_open" (defScope (top 13)) (He.ga K "check_open") cdv A outer s H E) rfl
  exact (ss_one (ss_if (et_not (et_val (ef_bi (cr_all rfl) c_all T.b_all (ec_cons ((en_lc rfl S_check_open.nd (ei_any (ef_var 1)) (blkOk_by (own := [("value", 2)]) (by kernel_rfl)) (tg_name 2) (fun _ _ _ _ _ => (pg_name (i := 2) S_check_open.nd rfl (by first | exact Or.inl rfl | exact Or.inr rfl))) (fun _ _ _ _ _ => ets_nil) (fun _ _ _ _ _ => (ef_call G_is_open (hr.mono (by decide : 3 ≤ 3)) T.g_is_open kp_is_open b_is_open passB (ea_cons (ef_var 0) (ea_cons (ef_var 2) ea_nil)))))).b ec_nil)))) (ss_one (ss_raiseE rfl tk T.ra_BadCell.ra)) ss_nil))
theorem S_is_word : FnScope ["value", "sign"] ["value"] (defScope (top 16)) := ⟨rfl, rfl, rfl, by decide +kernel, rfl, by decide +kernel, by decide +kernel⟩
theorem ok_is_word (T : Facts w K mg) : FnP P w K mg base 1 (He.ga K "is_word") ["value"] (spF K F_is_word) := by
  refine T.d_is_word.f S_is_word fun cdv A outer s H E hr => ?_
  have tk := L2.takes_of (X := cxOf (L2.CX P w) P w K mg base ["value", "sign"] "is_word" (defScope (top 16)) (He.ga K "is_word") cdv A outer s H E) rfl rfl rfl rfl
  have hx := fun σ => L2.passAt tk σ
  have own := L2.passes_of (X := cxOf (L2.CX P w) P w K mg base ["value", "sign"] "is_word" (defScope (top 16)) (He.ga K "is_word") cdv A outer s H E) rfl
  exact (ss_one (ss_ret (ef_and (ef_bi call_isi c_isi T.b_isinstance (ec_cons ((ef_var 0)).b (ec_cons ((ef_bty T.b_str)).b ec_nil))) (ef_one (ef_bi (cr_all rfl) c_all T.b_all (ec_cons ((en_lc rfl S_is_word.nd (ei_any (ef_var 0)) (blkOk_by (own := [("sign", 1)]) (by kernel_rfl)) (tg_name 1) (fun _ _ _ _ _ => (pg_name (i := 1) S_is_word.nd rfl (by first | exact Or.inl rfl | exact Or.inr rfl))) (fun _ _ _ _ _ => ets_nil) (fun _ _ _ _ _ => (ef_kin T.t_STEPS T.g_STEPS (ef_var 1))))).b ec_nil))))))
theorem S__check : FnScope ["maze", "cell", "word"] ["maze", "cell", "word"] (defScope (top 17)) := ⟨rfl, rfl, rfl, by decide +kernel, rfl, by decide +kernel, by decide +kernel⟩
theorem ok__check (T : Facts w K mg) : FnP P w K mg base 5 (He.ga K "_check") ["maze", "cell", "word"] (spF K F__check) := by
  obtain ⟨⟨fd_check_open, G_check_open, b_check_open, _⟩, kp_check_open⟩ := ok_check_open T (P := P) (base := base)
  obtain ⟨⟨fd_is_word, G_is_word, b_is_word, _⟩, kp_is_word⟩ := ok_is_word T (P := P) (base := base)
  refine T.d__check.f S__check fun cdv A outer s H E hr => ?_
  have tk := L2.takes_of (X := cxOf (L2.CX P w) P w K mg base ["maze", "cell", "word"] "_check" (defScope (top 17)) (He.ga K "_check") cdv A outer s H E) rfl rfl rfl rfl
  have hx := fun σ => L2.passAt tk σ
  have own := L2.passes_of (X := cxOf (L2.CX P w) P w K mg base ["maze", "cell", "word"] "_check" (defScope (top 17)) (He.ga K "_check") cdv A outer s H E) rfl
  exact (ss_cons (ss_expr (ef_call G_check_open (hr.mono (by decide : 4 ≤ 4)) T.g_check_open kp_check_open b_check_open hx (ea_cons (ef_var 0) (ea_cons ((en_lst (ea_cons (ef_var 1) ea_nil))).fz ea_nil))))
    (ss_one (ss_if (et_not (et_val (ef_call G_is_word (hr.mono (by decide : 1 ≤ 4)) T.g_is_word kp_is_word b_is_word hx (ea_cons (ef_var 2) ea_nil)))) (ss_one (ss_raiseE rfl tk T.ra_BadWord.ra)) ss_nil)))
theorem S_stepped : FnScope ["maze", "cell", "sign", "down", "across", "there"] ["maze", "cell", "sign"] (defScope (top 18)) := ⟨rfl, rfl, rfl, by decide +kernel, rfl, by decide +kernel, by decide +kernel⟩
theorem ok_stepped (T : Facts w K mg) : FnP P w K mg base 4 (He.ga K "stepped") ["maze", "cell", "sign"] (spF K F_stepped) := by
  obtain ⟨⟨fd_is_open, G_is_open, b_is_open, _⟩, kp_is_open⟩ := ok_is_open T (P := P) (base := base)
  refine T.d_stepped.f S_stepped fun cdv A outer s H E hr => ?_
  have tk := L2.takes_of (X := cxOf (L2.CX P w) P w K mg base ["maze", "cell", "sign", "down", "across", "there"] "stepped" (defScope (top 18)) (He.ga K "stepped") cdv A outer s H E) rfl rfl rfl rfl
  have hx := fun σ => L2.passAt tk σ
  have own := L2.passes_of (X := cxOf (L2.CX P w) P w K mg base ["maze", "cell", "sign", "down", "across", "there"] "stepped" (defScope (top 18)) (He.ga K "stepped") cdv A outer s H E) rfl
  exact (ss_cons (ss_asg (vs := [3, 4]) (ef_kget T.t_STEPS T.g_STEPS (ef_var 2)) (pg_tup rfl (pgs_cons (pg_name (i := 3) S_stepped.nd rfl (by first | exact Or.inl rfl | exact Or.inr rfl)) (pgs_cons (pg_name (i := 4) S_stepped.nd rfl (by first | exact Or.inl rfl | exact Or.inr rfl)) pgs_nil))) (tg_tup (tgs_cons (tg_name 3) (tgs_cons (tg_name 4) tgs_nil))))
    (ss_cons (ss_set 5 (ef_tup (ea_cons (ef_op op_addA o_add ((ef_ix ix_seq o_ix ((ef_var 1)).b (ef_int).b)).b ((ef_var 3)).b) (ea_cons (ef_op op_addA o_add ((ef_ix ix_seq o_ix ((ef_var 1)).b (ef_int).b)).b ((ef_var 4)).b) ea_nil))) S_stepped.nd)
    (ss_one (ss_ret (ef_if (et_val (ef_call G_is_open (hr.mono (by decide : 3 ≤ 3)) T.g_is_open kp_is_open b_is_open hx (ea_cons (ef_var 0) (ea_cons (ef_var 5) ea_nil)))) (ef_var 5) (ef_var 1))))))
theorem S_led : FnScope ["maze", "cell", "word", "sign"] ["maze", "cell", "word"] (defScope (top 19)) := ⟨rfl, rfl, rfl, by decide +kernel, rfl, by decide +kernel, by decide +kernel⟩
theorem ok_led (T : Facts w K mg) : FnP P w K mg base 5 (He.ga K "led") ["maze", "cell", "word"] (spF K F_led) := by
  obtain ⟨⟨fd_stepped, G_stepped, b_stepped, _⟩, kp_stepped⟩ := ok_stepped T (P := P) (base := base)
  refine T.d_led.f S_led fun cdv A outer s H E hr => ?_
  have tk := L2.takes_of (X := cxOf (L2.CX P w) P w K mg base ["maze", "cell", "word", "sign"] "led" (defScope (top 19)) (He.ga K "led") cdv A outer s H E) rfl rfl rfl rfl
  have hx := fun σ => L2.passAt tk σ
  have own := L2.passes_of (X := cxOf (L2.CX P w) P w K mg base ["maze", "cell", "word", "sign"] "led" (defScope (top 19)) (He.ga K "led") cdv A outer s H E) rfl
  exact (ss_cons (ss_for (vs := [3]) own rfl (ei_any (ef_var 2)) (pg_name (i := 3) S_led.nd rfl (by first | exact Or.inl rfl | exact Or.inr rfl)) (tg_name 3)
    (ss_one (ss_set 1 (ef_call G_stepped (hr.mono (by decide : 4 ≤ 4)) T.g_stepped kp_stepped b_stepped hx (ea_cons (ef_var 0) (ea_cons (ef_var 1) (ea_cons (ef_var 3) ea_nil)))) S_led.nd)))
    (ss_one (ss_ret (ef_var 1))))
theorem S_gone : FnScope ["maze", "cell", "word"] ["maze", "cell", "word"] (defScope (top 20)) := ⟨rfl, rfl, rfl, by decide +kernel, rfl, by decide +kernel, by decide +kernel⟩
theorem ok_gone (T : Facts w K mg) : FnP P w K mg base 6 (He.ga K "gone") ["maze", "cell", "word"] (spF K F_gone) := by
  obtain ⟨⟨fd__check, G__check, b__check, _⟩, kp__check⟩ := ok__check T (P := P) (base := base)
  obtain ⟨⟨fd_led, G_led, b_led, _⟩, kp_led⟩ := ok_led T (P := P) (base := base)
  refine T.d_gone.f S_gone fun cdv A outer s H E hr => ?_
  have tk := L2.takes_of (X := cxOf (L2.CX P w) P w K mg base ["maze", "cell", "word"] "gone" (defScope (top 20)) (He.ga K "gone") cdv A outer s H E) rfl rfl rfl rfl
  have hx := fun σ => L2.passAt tk σ
  have own := L2.passes_of (X := cxOf (L2.CX P w) P w K mg base ["maze", "cell", "word"] "gone" (defScope (top 20)) (He.ga K "gone") cdv A outer s H E) rfl
  exact (ss_cons (ss_expr (ef_call G__check (hr.mono (by decide : 5 ≤ 5)) T.g__check kp__check b__check hx (ea_cons (ef_var 0) (ea_cons (ef_var 1) (ea_cons (ef_var 2) ea_nil)))))
    (ss_one (ss_ret (ef_call G_led (hr.mono (by decide : 5 ≤ 5)) T.g_led kp_led b_led hx (ea_cons (ef_var 0) (ea_cons (ef_var 1) (ea_cons (ef_var 2) ea_nil)))))))
theorem S_told : FnScope ["maze", "cell", "word", "signs", "sign", "there"] ["maze", "cell", "word"] (defScope (top 21)) := ⟨rfl, rfl, rfl, by decide +kernel, rfl, by decide +kernel, by decide +kernel⟩
theorem ok_told (T : Facts w K mg) : FnP P w K mg base 5 (He.ga K "told") ["maze", "cell", "word"] (spF K F_told) := by
  obtain ⟨⟨fd_stepped, G_stepped, b_stepped, _⟩, kp_stepped⟩ := ok_stepped T (P := P) (base := base)
  refine T.d_told.f S_told fun cdv A outer s H E hr => ?_
  have tk := L2.takes_of (X := cxOf (L2.CX P w) P w K mg base ["maze", "cell", "word", "signs", "sign", "there"] "told" (defScope (top 21)) (He.ga K "told") cdv A outer s H E) rfl rfl rfl rfl
  have hx := fun σ => L2.passAt tk σ
  have own := L2.passes_of (X := cxOf (L2.CX P w) P w K mg base ["maze", "cell", "word", "signs", "sign", "there"] "told" (defScope (top 21)) (He.ga K "told") cdv A outer s H E) rfl
  exact (ss_cons (ss_set 3 ef_str S_told.nd)
    (ss_cons (ss_for (vs := [4]) own rfl (ei_any (ef_var 2)) (pg_name (i := 4) S_told.nd rfl (by first | exact Or.inl rfl | exact Or.inr rfl)) (tg_name 4)
    (ss_cons (ss_set 5 (ef_call G_stepped (hr.mono (by decide : 4 ≤ 4)) T.g_stepped kp_stepped b_stepped hx (ea_cons (ef_var 0) (ea_cons (ef_var 1) (ea_cons (ef_var 4) ea_nil)))) S_told.nd)
    (ss_cons (ss_set 3 (ef_op op_addA o_add ((ef_var 3)).b ((ef_if (et_cmp (op_eqA hr.units) o_eq ((ef_var 5)).b ((ef_var 1)).b rfl) ef_str ef_str)).b) S_told.nd)
    (ss_one (ss_set 1 (ef_var 5) S_told.nd)))))
    (ss_one (ss_ret (ef_var 3)))))
theorem S_report : FnScope ["maze", "cell", "word"] ["maze", "cell", "word"] (defScope (top 22)) := ⟨rfl, rfl, rfl, by decide +kernel, rfl, by decide +kernel, by decide +kernel⟩
theorem ok_report (T : Facts w K mg) : FnP P w K mg base 6 (He.ga K "report") ["maze", "cell", "word"] (spF K F_report) := by
  obtain ⟨⟨fd__check, G__check, b__check, _⟩, kp__check⟩ := ok__check T (P := P) (base := base)
  obtain ⟨⟨fd_told, G_told, b_told, _⟩, kp_told⟩ := ok_told T (P := P) (base := base)
  refine T.d_report.f S_report fun cdv A outer s H E hr => ?_
  have tk := L2.takes_of (X := cxOf (L2.CX P w) P w K mg base ["maze", "cell", "word"] "report" (defScope (top 22)) (He.ga K "report") cdv A outer s H E) rfl rfl rfl rfl
  have hx := fun σ => L2.passAt tk σ
  have own := L2.passes_of (X := cxOf (L2.CX P w) P w K mg base ["maze", "cell", "word"] "report" (defScope (top 22)) (He.ga K "report") cdv A outer s H E) rfl
  exact (ss_cons (ss_expr (ef_call G__check (hr.mono (by decide : 5 ≤ 5)) T.g__check kp__check b__check hx (ea_cons (ef_var 0) (ea_cons (ef_var 1) (ea_cons (ef_var 2) ea_nil)))))
    (ss_one (ss_ret (ef_call G_told (hr.mono (by decide : 5 ≤ 5)) T.g_told kp_told b_told hx (ea_cons (ef_var 0) (ea_cons (ef_var 1) (ea_cons (ef_var 2) ea_nil)))))))
theorem S__law_draws : FnScope ["script", "many", "draws", "seed", "cell", "number", "k"] ["script", "many"] (defScope (top 24)) := ⟨rfl, rfl, rfl, by decide +kernel, rfl, by decide +kernel, by decide +kernel⟩
theorem ok__law_draws (T : Facts w K mg) : FnP P w K mg base 1 (He.ga K "_law_draws") ["script", "many"] (spF K F__law_draws) := by
  refine T.d__law_draws.f S__law_draws fun cdv A outer s H E hr => ?_
  have tk := L2.takes_of (X := cxOf (L2.CX P w) P w K mg base ["script", "many", "draws", "seed", "cell", "number", "k"] "_law_draws" (defScope (top 24)) (He.ga K "_law_draws") cdv A outer s H E) rfl rfl rfl rfl
  have hx := fun σ => L2.passAt tk σ
  have own := L2.passes_of (X := cxOf (L2.CX P w) P w K mg base ["script", "many", "draws", "seed", "cell", "number", "k"] "_law_draws" (defScope (top 24)) (He.ga K "_law_draws") cdv A outer s H E) rfl
  exact (ss_cons (ss_setO 2 (en_lst ea_nil) S__law_draws.nd)
    (ss_cons (ss_set 3 ef_int S__law_draws.nd)
    (ss_cons (ss_for (vs := [4]) own rfl (ei_any (ef_sl sl_any s_any ((ef_var 0)).b eo_none (eo_some ef_int))) (pg_name (i := 4) S__law_draws.nd rfl (by first | exact Or.inl rfl | exact Or.inr rfl)) (tg_name 4)
    (ss_cons (ss_set 5 (ef_bi call_abs c_abs T.b_abs (ec_cons ((ef_var 4)).b ec_nil)) S__law_draws.nd)
    (ss_cons (ss_set 3 (ef_op op_mod o_mod ((ef_bt call_int1 c_int T.b_int (ec_cons ((ef_op op_addA o_add ((ef_op op_addA o_add ((ef_op op_mul o_mul ((ef_var 3)).b (ef_int).b)).b ((ef_var 5)).b)).b (ef_int).b)).b ec_nil))).b (ef_int).b) S__law_draws.nd)
    (ss_one (ss_if (et_cmp op_ge o_ge ((ef_var 5)).b ((ef_op op_pow o_pow (ef_int).b (ef_int).b)).b rfl) (ss_one (ss_for (vs := [6]) own rfl (ei_range1 T.b_range (ea_cons ef_int ea_nil)) (pg_name (i := 6) S__law_draws.nd rfl (by first | exact Or.inl rfl | exact Or.inr rfl)) (tg_name 6)
    (ss_one (ss_if (et_cmp op_gt o_gt ((ef_var 5)).b (ef_int).b rfl) (ss_cons (ss_app 2 (ef_op op_mod o_mod ((ef_bt call_int1 c_int T.b_int (ec_cons ((ef_var 5)).b ec_nil))).b (ef_int).b))
    (ss_one (ss_set 5 (ef_op op_fdiv o_div ((ef_var 5)).b (ef_int).b) S__law_draws.nd))) ss_nil)))) (ss_one (ss_app 2 (ef_op op_mod o_mod ((ef_op op_fdiv o_div ((ef_bt call_int1 c_int T.b_int (ec_cons ((ef_op op_addA o_add ((ef_op op_mul o_mul ((ef_var 3)).b (ef_int).b)).b (ef_int).b)).b ec_nil))).b (ef_int).b)).b (ef_int).b))))))))
    (ss_cons (ss_for (vs := [6]) own rfl (ei_range1 T.b_range (ea_cons (ef_var 1) ea_nil)) (pg_name (i := 6) S__law_draws.nd rfl (by first | exact Or.inl rfl | exact Or.inr rfl)) (tg_name 6)
    (ss_one (ss_if (et_cmp op_lt o_lt ((ef_bi call_len c_len T.b_len (ec_cons (eb_var 2) ec_nil))).b ((ef_var 1)).b rfl) (ss_cons (ss_set 3 (ef_op op_mod o_mod ((ef_bt call_int1 c_int T.b_int (ec_cons ((ef_op op_addA o_add ((ef_op op_addA o_add ((ef_op op_mul o_mul ((ef_var 3)).b (ef_int).b)).b ((ef_var 6)).b)).b (ef_int).b)).b ec_nil))).b (ef_int).b) S__law_draws.nd)
    (ss_one (ss_app 2 (ef_op op_mod o_mod ((ef_op op_fdiv o_div ((ef_bt call_int1 c_int T.b_int (ec_cons ((ef_var 3)).b ec_nil))).b (ef_int).b)).b (ef_int).b)))) ss_nil)))
    (ss_one (ss_ret (ef_sl sl_any s_any (eb_var 2) eo_none (eo_some (ef_var 1)))))))))
theorem S__law_rows : FnScope ["draws", "high", "wide", "found", "row", "draw", "k"] ["draws", "high", "wide"] (defScope (top 25)) := ⟨rfl, rfl, rfl, by decide +kernel, rfl, by decide +kernel, by decide +kernel⟩
theorem ok__law_rows (T : Facts w K mg) : FnP P w K mg base 1 (He.ga K "_law_rows") ["draws", "high", "wide"] (spF K F__law_rows) := by
  refine T.d__law_rows.f S__law_rows fun cdv A outer s H E hr => ?_
  have tk := L2.takes_of (X := cxOf (L2.CX P w) P w K mg base ["draws", "high", "wide", "found", "row", "draw", "k"] "_law_rows" (defScope (top 25)) (He.ga K "_law_rows") cdv A outer s H E) rfl rfl rfl rfl
  have hx := fun σ => L2.passAt tk σ
  have own := L2.passes_of (X := cxOf (L2.CX P w) P w K mg base ["draws", "high", "wide", "found", "row", "draw", "k"] "_law_rows" (defScope (top 25)) (He.ga K "_law_rows") cdv A outer s H E) rfl
  exact (ss_cons (ss_setO 3 (en_lst ea_nil) S__law_rows.nd)
    (ss_cons (ss_for (vs := [4]) own rfl (ei_range1 T.b_range (ea_cons (ef_var 1) ea_nil)) (pg_name (i := 4) S__law_rows.nd rfl (by first | exact Or.inl rfl | exact Or.inr rfl)) (tg_name 4)
    (ss_cons (ss_set 5 (ef_bt call_int1 c_int T.b_int (ec_cons ((ef_ix ix_seq o_ix ((ef_var 0)).b ((ef_op op_addA o_add (ef_int).b ((ef_op op_mod o_mod ((ef_var 4)).b ((ef_op op_sub o_sub ((ef_bi call_len c_len T.b_len (ec_cons ((ef_var 0)).b ec_nil))).b (ef_int).b)).b)).b)).b)).b ec_nil)) S__law_rows.nd)
    (ss_one (ss_app 3 (ef_m1 PySem.F.slot_str_join PySem.F.type_str_join mt_join m_join (ef_str).b ((en_lc rfl S__law_rows.nd (ei_range1 T.b_range (ea_cons (ef_var 2) ea_nil)) (blkOk_by (own := [("k", 6)]) (by kernel_rfl)) (tg_name 6) (fun _ _ _ _ _ => (pg_name (i := 6) S__law_rows.nd rfl (by first | exact Or.inl rfl | exact Or.inr rfl))) (fun _ _ _ _ _ => ets_nil) (fun _ _ _ _ _ => (ef_if (et_cmp op_lt o_lt ((ef_op op_mod o_mod ((ef_op op_fdiv o_div ((ef_bt call_int1 c_int T.b_int (ec_cons ((ef_op op_addA o_add ((ef_op op_addA o_add ((ef_op op_mul o_mul ((ef_var 5)).b ((ef_op op_addA o_add ((ef_var 6)).b (ef_int).b)).b)).b ((ef_op op_mul o_mul ((ef_var 6)).b (ef_int).b)).b)).b ((ef_op op_mul o_mul ((ef_var 4)).b (ef_int).b)).b)).b ec_nil))).b (ef_int).b)).b (ef_int).b)).b ((ef_op op_mod o_mod ((ef_bt call_int1 c_int T.b_int (ec_cons ((ef_ix ix_seq o_ix ((ef_var 0)).b (ef_int).b)).b ec_nil))).b (ef_int).b)).b rfl) ef_str ef_str)))).b)))))
    (ss_one (ss_ret (ef_bt call_tuple_of c_tuple T.b_tuple (ec_cons ((ef_op op_addA o_add ((en_lst (ea_cons (ef_op op_addA o_add (ef_str).b ((ef_sl sl_any s_any ((ef_ix ix_seq o_ix (eb_var 3) (ef_int).b)).b (eo_some ef_int) eo_none)).b) ea_nil))).b ((ef_sl sl_any s_any (eb_var 3) (eo_some ef_int) eo_none)).b)).b ec_nil))))))
theorem S__law_cells : FnScope ["rows", "found", "row", "k"] ["rows"] (defScope (top 26)) := ⟨rfl, rfl, rfl, by decide +kernel, rfl, by decide +kernel, by decide +kernel⟩
theorem ok__law_cells (T : Facts w K mg) : FnP P w K mg base 1 (He.ga K "_law_cells") ["rows"] (spF K F__law_cells) := by
  refine T.d__law_cells.f S__law_cells fun cdv A outer s H E hr => ?_
  have tk := L2.takes_of (X := cxOf (L2.CX P w) P w K mg base ["rows", "found", "row", "k"] "_law_cells" (defScope (top 26)) (He.ga K "_law_cells") cdv A outer s H E) rfl rfl rfl rfl
  have hx := fun σ => L2.passAt tk σ
  have own := L2.passes_of (X := cxOf (L2.CX P w) P w K mg base ["rows", "found", "row", "k"] "_law_cells" (defScope (top 26)) (He.ga K "_law_cells") cdv A outer s H E) rfl
  exact (ss_cons (ss_set 1 ((en_lst ea_nil)).fz S__law_cells.nd)
    (ss_cons (ss_for (vs := [2]) own rfl (ei_range1 T.b_range (ea_cons (ef_bi call_len c_len T.b_len (ec_cons ((ef_var 0)).b ec_nil)) ea_nil)) (pg_name (i := 2) S__law_cells.nd rfl (by first | exact Or.inl rfl | exact Or.inr rfl)) (tg_name 2)
    (ss_one (ss_set 1 (ef_op op_addA o_add ((ef_var 1)).b ((en_lc rfl S__law_cells.nd (ei_range1 T.b_range (ea_cons (ef_bi call_len c_len T.b_len (ec_cons ((ef_ix ix_seq o_ix ((ef_var 0)).b (ef_int).b)).b ec_nil)) ea_nil)) (blkOk_by (own := [("k", 3)]) (by kernel_rfl)) (tg_name 3) (fun _ _ _ _ _ => (pg_name (i := 3) S__law_cells.nd rfl (by first | exact Or.inl rfl | exact Or.inr rfl))) (fun _ _ _ _ _ => (ets_one (et_cmp (op_eqA hr.units) o_eq ((ef_ix ix_seq o_ix ((ef_ix ix_seq o_ix ((ef_var 0)).b ((ef_var 2)).b)).b ((ef_var 3)).b)).b (ef_str).b rfl))) (fun _ _ _ _ _ => (ef_tup (ea_cons (ef_var 2) (ea_cons (ef_var 3) ea_nil)))))).b) S__law_cells.nd)))
    (ss_one (ss_ret (ef_bt call_tuple_of c_tuple T.b_tuple (ec_cons ((ef_var 1)).b ec_nil))))))
theorem S__law_near : FnScope ["rows", "cell", "found", "step", "there"] ["rows", "cell"] (defScope (top 27)) := ⟨rfl, rfl, rfl, by decide +kernel, rfl, by decide +kernel, by decide +kernel⟩
theorem ok__law_near (T : Facts w K mg) : FnP P w K mg base 1 (He.ga K "_law_near") ["rows", "cell"] (spF K F__law_near) := by
  refine T.d__law_near.f S__law_near fun cdv A outer s H E hr => ?_
  have tk := L2.takes_of (X := cxOf (L2.CX P w) P w K mg base ["rows", "cell", "found", "step", "there"] "_law_near" (defScope (top 27)) (He.ga K "_law_near") cdv A outer s H E) rfl rfl rfl rfl
  have hx := fun σ => L2.passAt tk σ
  have own := L2.passes_of (X := cxOf (L2.CX P w) P w K mg base ["rows", "cell", "found", "step", "there"] "_law_near" (defScope (top 27)) (He.ga K "_law_near") cdv A outer s H E) rfl
  exact (ss_cons (ss_setO 2 (en_lst ea_nil) S__law_near.nd)
    (ss_cons (ss_for (vs := [3]) own rfl (ei_any ((en_lst (ea_cons (ef_tup (ea_cons (ef_neg (ef_int).b) (ea_cons ef_int ea_nil))) (ea_cons (ef_tup (ea_cons ef_int (ea_cons (ef_neg (ef_int).b) ea_nil))) (ea_cons (ef_tup (ea_cons ef_int (ea_cons ef_int ea_nil))) (ea_cons (ef_tup (ea_cons ef_int (ea_cons ef_int ea_nil))) ea_nil)))))).fz) (pg_name (i := 3) S__law_near.nd rfl (by first | exact Or.inl rfl | exact Or.inr rfl)) (tg_name 3)
    (ss_cons (ss_set 4 (ef_tup (ea_cons (ef_op op_addA o_add ((ef_ix ix_seq o_ix ((ef_var 1)).b (ef_int).b)).b ((ef_ix ix_seq o_ix ((ef_var 3)).b (ef_int).b)).b) (ea_cons (ef_op op_addA o_add ((ef_ix ix_seq o_ix ((ef_var 1)).b (ef_int).b)).b ((ef_ix ix_seq o_ix ((ef_var 3)).b (ef_int).b)).b) ea_nil))) S__law_near.nd)
    (ss_one (ss_if (ew_and (et_chain op_le op_lt o_le o_lt (ef_int).b ((ef_ix ix_seq o_ix ((ef_var 4)).b (ef_int).b)).b ((ef_bi call_len c_len T.b_len (ec_cons ((ef_var 0)).b ec_nil))).b) (ew_and (et_chain op_le op_lt o_le o_lt (ef_int).b ((ef_ix ix_seq o_ix ((ef_var 4)).b (ef_int).b)).b ((ef_bi call_len c_len T.b_len (ec_cons ((ef_ix ix_seq o_ix ((ef_var 0)).b (ef_int).b)).b ec_nil))).b) (ew_and1 (et_cmp (op_eqA hr.units) o_eq ((ef_ix ix_seq o_ix ((ef_ix ix_seq o_ix ((ef_var 0)).b ((ef_ix ix_seq o_ix ((ef_var 4)).b (ef_int).b)).b)).b ((ef_ix ix_seq o_ix ((ef_var 4)).b (ef_int).b)).b)).b (ef_str).b rfl)))).t (ss_one (ss_app 2 (ef_var 4))) ss_nil))))
    (ss_one (ss_frz 2 (ss_ret (ef_var 2))))))
theorem S__law_step : FnScope ["rows", "cell", "sign", "step", "there"] ["rows", "cell", "sign"] (defScope (top 28)) := ⟨rfl, rfl, rfl, by decide +kernel, rfl, by decide +kernel, by decide +kernel⟩
theorem ok__law_step (T : Facts w K mg) : FnP P w K mg base 2 (He.ga K "_law_step") ["rows", "cell", "sign"] (spF K F__law_step) := by
  obtain ⟨⟨fd__law_near, G__law_near, b__law_near, _⟩, kp__law_near⟩ := ok__law_near T (P := P) (base := base)
  refine T.d__law_step.f S__law_step fun cdv A outer s H E hr => ?_
  have tk := L2.takes_of (X := cxOf (L2.CX P w) P w K mg base ["rows", "cell", "sign", "step", "there"] "_law_step" (defScope (top 28)) (He.ga K "_law_step") cdv A outer s H E) rfl rfl rfl rfl
  have hx := fun σ => L2.passAt tk σ
  have own := L2.passes_of (X := cxOf (L2.CX P w) P w K mg base ["rows", "cell", "sign", "step", "there"] "_law_step" (defScope (top 28)) (He.ga K "_law_step") cdv A outer s H E) rfl
  exact (ss_cons (ss_set 3 (ef_dispget (un1 hr) (EPs.cons (ef_tup (ea_cons ef_int (ea_cons ef_int ea_nil))) (EPs.cons (ef_tup (ea_cons ef_int (ea_cons (ef_neg (ef_int).b) ea_nil))) (EPs.cons (ef_tup (ea_cons ef_int (ea_cons ef_int ea_nil))) (EPs.cons (ef_tup (ea_cons (ef_neg (ef_int).b) (ea_cons ef_int ea_nil))) EPs.nil)))) (ef_var 2) (by intro ρ c h; exact absurd (show Res.ok _ = Res.exc c from h) (by intro z; cases z))) S__law_step.nd)
    (ss_cons (ss_set 4 (ef_tup (ea_cons (ef_op op_addA o_add ((ef_ix ix_seq o_ix ((ef_var 1)).b (ef_int).b)).b ((ef_ix ix_seq o_ix ((ef_var 3)).b (ef_int).b)).b) (ea_cons (ef_op op_addA o_add ((ef_ix ix_seq o_ix ((ef_var 1)).b (ef_int).b)).b ((ef_ix ix_seq o_ix ((ef_var 3)).b (ef_int).b)).b) ea_nil))) S__law_step.nd)
    (ss_one (ss_ret (ef_if (et_cmp (op_inA (un65 hr)) o_in ((ef_var 4)).b ((ef_call G__law_near (hr.mono (by decide : 1 ≤ 1)) T.g__law_near kp__law_near b__law_near hx (ea_cons (ef_var 0) (ea_cons (ef_var 1) ea_nil)))).b rfl) (ef_var 4) (ef_var 1))))))
theorem S__law_led : FnScope ["rows", "cell", "word", "told_v", "sign", "there"] ["rows", "cell", "word"] (defScope (top 29)) := ⟨rfl, rfl, rfl, by decide +kernel, rfl, by decide +kernel, by decide +kernel⟩
theorem ok__law_led (T : Facts w K mg) : FnP P w K mg base 3 (He.ga K "_law_led") ["rows", "cell", "word"] (spF K F__law_led) := by
  obtain ⟨⟨fd__law_step, G__law_step, b__law_step, _⟩, kp__law_step⟩ := ok__law_step T (P := P) (base := base)
  refine T.d__law_led.f S__law_led fun cdv A outer s H E hr => ?_
  have tk := L2.takes_of (X := cxOf (L2.CX P w) P w K mg base ["rows", "cell", "word", "told_v", "sign", "there"] "_law_led" (defScope (top 29)) (He.ga K "_law_led") cdv A outer s H E) rfl rfl rfl rfl
  have hx := fun σ => L2.passAt tk σ
  have own := L2.passes_of (X := cxOf (L2.CX P w) P w K mg base ["rows", "cell", "word", "told_v", "sign", "there"] "_law_led" (defScope (top 29)) (He.ga K "_law_led") cdv A outer s H E) rfl
  exact (ss_cons (ss_set 3 ef_str S__law_led.nd)
    (ss_cons (ss_for (vs := [4]) own rfl (ei_any (ef_var 2)) (pg_name (i := 4) S__law_led.nd rfl (by first | exact Or.inl rfl | exact Or.inr rfl)) (tg_name 4)
    (ss_cons (ss_set 5 (ef_call G__law_step (hr.mono (by decide : 2 ≤ 2)) T.g__law_step kp__law_step b__law_step hx (ea_cons (ef_var 0) (ea_cons (ef_var 1) (ea_cons (ef_var 4) ea_nil)))) S__law_led.nd)
    (ss_one (ss_par 1 3 (ef_var 5) (ef_op op_addA o_add ((ef_var 3)).b ((ef_if (et_cmp (op_eqA hr.units) o_eq ((ef_var 5)).b ((ef_var 1)).b rfl) ef_str ef_str)).b) rfl S__law_led.nd))))
    (ss_one (ss_ret (ef_tup (ea_cons (ef_var 1) (ea_cons (ef_var 3) ea_nil)))))))
theorem S__law_error : FnScope ["way", "maze", "cell", "word", "e"] ["way", "maze", "cell", "word"] (defScope (top 30)) := ⟨rfl, rfl, rfl, by decide +kernel, rfl, by decide +kernel, by decide +kernel⟩
theorem ok__law_error (T : Facts w K mg) : FnP P w K mg base 7 (He.ga K "_law_error") ["way", "maze", "cell", "word"] (spF K F__law_error) := by
  obtain ⟨⟨fd_gone, G_gone, b_gone, _⟩, kp_gone⟩ := ok_gone T (P := P) (base := base)
  obtain ⟨⟨fd_report, G_report, b_report, _⟩, kp_report⟩ := ok_report T (P := P) (base := base)
  refine T.d__law_error.f S__law_error fun cdv A outer s H E hr => ?_
  have tk := L2.takes_of (X := cxOf (L2.CX P w) P w K mg base ["way", "maze", "cell", "word", "e"] "_law_error" (defScope (top 30)) (He.ga K "_law_error") cdv A outer s H E) rfl rfl rfl rfl
  have hx := fun σ => L2.passAt tk σ
  have own := L2.passes_of (X := cxOf (L2.CX P w) P w K mg base ["way", "maze", "cell", "word", "e"] "_law_error" (defScope (top 30)) (He.ga K "_law_error") cdv A outer s H E) rfl
  exact (ss_cons (ss_try rfl rfl tk (fun W pn xe tk' own' => (ss_one (ss_if (et_cmp (op_eqA hr.units) o_eq ((ef_var 0)).b (ef_int).b rfl) (ss_one (ss_expr (ef_call G_gone (hr.mono (by decide : 6 ≤ 6)) T.g_gone kp_gone b_gone (fun σ => L2.passAt tk' σ) (ea_cons (ef_var 1) (ea_cons (ef_var 2) (ea_cons (ef_var 3) ea_nil)))))) (ss_one (ss_expr (ef_call G_report (hr.mono (by decide : 6 ≤ 6)) T.g_report kp_report b_report (fun σ => L2.passAt tk' σ) (ea_cons (ef_var 1) (ea_cons (ef_var 2) (ea_cons (ef_var 3) ea_nil))))))))) (HdsS.as ⟨rfl, rfl, Or.inl T.g_BadCell⟩ T.exm_BadCell S__law_error.nd (i := 4) rfl rfl (fun a oe cls d pn hz hf => su_ret (fun σ h1 h2 => h1 4 rfl (Nat.lt_of_lt_of_eq (show 4 < 5 from by decide) h2.symm)) (fun c hc ec ed => (px_if (pt_isE (px_isE (j := 4) T.kit_BadWord hc (ec ▸ ed ▸ hz) hf T.b_isinstance T.g_BadWord)) (px_of ef_str) (px_of ef_str)))) (HdsS.as ⟨rfl, rfl, Or.inl T.g_MazeError⟩ T.exm_MazeError S__law_error.nd (i := 4) rfl rfl (fun a oe cls d pn hz hf => su_ret (fun σ h1 h2 => h1 4 rfl (Nat.lt_of_lt_of_eq (show 4 < 5 from by decide) h2.symm)) (fun c hc ec ed => (px_if (pt_isE (px_isE (j := 4) T.kit_BadWord hc (ec ▸ ed ▸ hz) hf T.b_isinstance T.g_BadWord)) (px_of ef_str) (px_of ef_str)))) HdsS.nil)))
    (ss_one (ss_ret ef_str)))
theorem S_law : FnScope ["script", "draws", "turn", "rows", "maze", "cells", "k", "cell", "draw", "word", "there", "told_v", "at", "kept", "back", "wrong", "n", "sign"] ["script"] (defScope (top 31)) := ⟨rfl, rfl, rfl, by decide +kernel, rfl, by decide +kernel, by decide +kernel⟩
theorem ok_law (T : Facts w K mg) : FnP P w K mg base 8 (He.ga K "law") ["script"] (spF K F_law) := by
  obtain ⟨⟨fd_Maze, G_Maze, b_Maze, _⟩, kp_Maze⟩ := ok_Maze T (P := P) (base := base)
  obtain ⟨⟨fd__law_cells, G__law_cells, b__law_cells, _⟩, kp__law_cells⟩ := ok__law_cells T (P := P) (base := base)
  obtain ⟨⟨fd__law_draws, G__law_draws, b__law_draws, _⟩, kp__law_draws⟩ := ok__law_draws T (P := P) (base := base)
  obtain ⟨⟨fd__law_error, G__law_error, b__law_error, _⟩, kp__law_error⟩ := ok__law_error T (P := P) (base := base)
  obtain ⟨⟨fd__law_led, G__law_led, b__law_led, _⟩, kp__law_led⟩ := ok__law_led T (P := P) (base := base)
  obtain ⟨⟨fd__law_rows, G__law_rows, b__law_rows, _⟩, kp__law_rows⟩ := ok__law_rows T (P := P) (base := base)
  obtain ⟨⟨fd_gone, G_gone, b_gone, _⟩, kp_gone⟩ := ok_gone T (P := P) (base := base)
  obtain ⟨⟨fd_report, G_report, b_report, _⟩, kp_report⟩ := ok_report T (P := P) (base := base)
  refine T.d_law.f S_law fun cdv A outer s H E hr => ?_
  have tk := L2.takes_of (X := cxOf (L2.CX P w) P w K mg base ["script", "draws", "turn", "rows", "maze", "cells", "k", "cell", "draw", "word", "there", "told_v", "at", "kept", "back", "wrong", "n", "sign"] "law" (defScope (top 31)) (He.ga K "law") cdv A outer s H E) rfl rfl rfl rfl
  have hx := fun σ => L2.passAt tk σ
  have own := L2.passes_of (X := cxOf (L2.CX P w) P w K mg base ["script", "draws", "turn", "rows", "maze", "cells", "k", "cell", "draw", "word", "there", "told_v", "at", "kept", "back", "wrong", "n", "sign"] "law" (defScope (top 31)) (He.ga K "law") cdv A outer s H E) rfl
  exact (ss_cons (ss_set 1 (ef_call G__law_draws (hr.mono (by decide : 1 ≤ 7)) T.g__law_draws kp__law_draws b__law_draws hx (ea_cons (ef_var 0) (ea_cons ef_int ea_nil))) S_law.nd)
    (ss_cons (ss_for (vs := [2]) own rfl (ei_range1 T.b_range (ea_cons ef_int ea_nil)) (pg_name (i := 2) S_law.nd rfl (by first | exact Or.inl rfl | exact Or.inr rfl)) (tg_name 2)
    (ss_cons (ss_set 3 (ef_call G__law_rows (hr.mono (by decide : 1 ≤ 7)) T.g__law_rows kp__law_rows b__law_rows hx (ea_cons (ef_sl sl_any s_any ((ef_var 1)).b (eo_some (ef_op op_addA o_add (ef_int).b ((ef_op op_mul o_mul (ef_int).b ((ef_var 2)).b)).b)) (eo_some (ef_op op_addA o_add (ef_int).b ((ef_op op_mul o_mul (ef_int).b ((ef_var 2)).b)).b))) (ea_cons (ef_op op_addA o_add (ef_int).b ((ef_op op_mod o_mod ((ef_bt call_int1 c_int T.b_int (ec_cons ((ef_ix ix_seq o_ix ((ef_var 1)).b ((ef_var 2)).b)).b ec_nil))).b (ef_int).b)).b) (ea_cons (ef_op op_addA o_add (ef_int).b ((ef_op op_mod o_mod ((ef_op op_fdiv o_div ((ef_bt call_int1 c_int T.b_int (ec_cons ((ef_ix ix_seq o_ix ((ef_var 1)).b ((ef_var 2)).b)).b ec_nil))).b (ef_int).b)).b (ef_int).b)).b) ea_nil)))) S_law.nd)
    (ss_cons (ss_par 4 5 (ef_make T.mk_Maze G_Maze hF_Maze (hr.mono (by decide : 2 ≤ 7)) T.g_Maze b_Maze (ea_cons (ef_var 3) ea_nil)) (ef_call G__law_cells (hr.mono (by decide : 1 ≤ 7)) T.g__law_cells kp__law_cells b__law_cells hx (ea_cons (ef_var 3) ea_nil)) rfl S_law.nd)
    (ss_cons (ss_for (vs := [6]) own rfl (ei_range1 T.b_range (ea_cons ef_int ea_nil)) (pg_name (i := 6) S_law.nd rfl (by first | exact Or.inl rfl | exact Or.inr rfl)) (tg_name 6)
    (ss_cons (ss_asg (vs := [7, 8]) (ef_tup (ea_cons (ef_ix ix_seq o_ix ((ef_var 5)).b ((ef_op op_mod o_mod ((ef_bt call_int1 c_int T.b_int (ec_cons ((ef_ix ix_seq o_ix ((ef_var 1)).b ((ef_op op_addA o_add (ef_int).b ((ef_var 6)).b)).b)).b ec_nil))).b ((ef_bi call_len c_len T.b_len (ec_cons ((ef_var 5)).b ec_nil))).b)).b) (ea_cons (ef_bt call_int1 c_int T.b_int (ec_cons ((ef_ix ix_seq o_ix ((ef_var 1)).b ((ef_op op_addA o_add (ef_int).b ((ef_var 6)).b)).b)).b ec_nil)) ea_nil))) (pg_tup rfl (pgs_cons (pg_name (i := 7) S_law.nd rfl (by first | exact Or.inl rfl | exact Or.inr rfl)) (pgs_cons (pg_name (i := 8) S_law.nd rfl (by first | exact Or.inl rfl | exact Or.inr rfl)) pgs_nil))) (tg_tup (tgs_cons (tg_name 7) (tgs_cons (tg_name 8) tgs_nil))))
    (ss_cons (ss_set 9 (ef_m1 PySem.F.slot_str_join PySem.F.type_str_join mt_join m_join (ef_str).b ((en_lc rfl S_law.nd (ei_range1 T.b_range (ea_cons (ef_op op_mod o_mod ((ef_var 8)).b (ef_int).b) ea_nil)) (blkOk_by (own := [("n", 16)]) (by kernel_rfl)) (tg_name 16) (fun _ _ _ _ _ => (pg_name (i := 16) S_law.nd rfl (by first | exact Or.inl rfl | exact Or.inr rfl))) (fun _ _ _ _ _ => ets_nil) (fun _ _ _ _ _ => (ef_ix ix_seq o_ix (ef_str).b ((ef_op op_mod o_mod ((ef_op op_fdiv o_div ((ef_var 8)).b ((ef_op op_addA o_add ((ef_var 16)).b (ef_int).b)).b)).b (ef_int).b)).b)))).b) S_law.nd)
    (ss_cons (ss_asg (vs := [10, 11]) (ef_call G__law_led (hr.mono (by decide : 3 ≤ 7)) T.g__law_led kp__law_led b__law_led hx (ea_cons (ef_var 3) (ea_cons (ef_var 7) (ea_cons (ef_var 9) ea_nil)))) (pg_tup rfl (pgs_cons (pg_name (i := 10) S_law.nd rfl (by first | exact Or.inl rfl | exact Or.inr rfl)) (pgs_cons (pg_name (i := 11) S_law.nd rfl (by first | exact Or.inl rfl | exact Or.inr rfl)) pgs_nil))) (tg_tup (tgs_cons (tg_name 10) (tgs_cons (tg_name 11) tgs_nil))))
    (ss_cons (ss_if (ew_or (et_cmp (op_neA hr.units) o_ne ((ef_call G_gone (hr.mono (by decide : 6 ≤ 7)) T.g_gone kp_gone b_gone hx (ea_cons (ef_var 4) (ea_cons (ef_var 7) (ea_cons (ef_var 9) ea_nil))))).b ((ef_var 10)).b rfl) (ew_or1 (et_cmp (op_neA hr.units) o_ne ((ef_call G_report (hr.mono (by decide : 6 ≤ 7)) T.g_report kp_report b_report hx (ea_cons (ef_var 4) (ea_cons (ef_var 7) (ea_cons (ef_var 9) ea_nil))))).b ((ef_var 11)).b rfl))).t (ss_one (ss_ret ef_bl)) ss_nil)
    (ss_cons (ss_set 12 (ef_op op_mod o_mod ((ef_op op_fdiv o_div ((ef_var 8)).b (ef_int).b)).b ((ef_op op_addA o_add ((ef_bi call_len c_len T.b_len (ec_cons ((ef_var 9)).b ec_nil))).b (ef_int).b)).b) S_law.nd)
    (ss_cons (ss_if (ew_or (et_cmp (op_neA hr.units) o_ne ((ef_call G_gone (hr.mono (by decide : 6 ≤ 7)) T.g_gone kp_gone b_gone hx (ea_cons (ef_var 4) (ea_cons (ef_call G_gone (hr.mono (by decide : 6 ≤ 7)) T.g_gone kp_gone b_gone hx (ea_cons (ef_var 4) (ea_cons (ef_var 7) (ea_cons (ef_sl sl_any s_any ((ef_var 9)).b eo_none (eo_some (ef_var 12))) ea_nil)))) (ea_cons (ef_sl sl_any s_any ((ef_var 9)).b (eo_some (ef_var 12)) eo_none) ea_nil))))).b ((ef_var 10)).b rfl) (ew_or1 (et_cmp (op_neA hr.units) o_ne ((ef_op op_addA o_add ((ef_call G_report (hr.mono (by decide : 6 ≤ 7)) T.g_report kp_report b_report hx (ea_cons (ef_var 4) (ea_cons (ef_var 7) (ea_cons (ef_sl sl_any s_any ((ef_var 9)).b eo_none (eo_some (ef_var 12))) ea_nil))))).b ((ef_call G_report (hr.mono (by decide : 6 ≤ 7)) T.g_report kp_report b_report hx (ea_cons (ef_var 4) (ea_cons (ef_call G_gone (hr.mono (by decide : 6 ≤ 7)) T.g_gone kp_gone b_gone hx (ea_cons (ef_var 4) (ea_cons (ef_var 7) (ea_cons (ef_sl sl_any s_any ((ef_var 9)).b eo_none (eo_some (ef_var 12))) ea_nil)))) (ea_cons (ef_sl sl_any s_any ((ef_var 9)).b (eo_some (ef_var 12)) eo_none) ea_nil))))).b)).b ((ef_var 11)).b rfl))).t (ss_one (ss_ret ef_bl)) ss_nil)
    (ss_cons (ss_set 13 (ef_m1 PySem.F.slot_str_join PySem.F.type_str_join mt_join m_join (ef_str).b ((en_lc rfl S_law.nd (ei_range1 T.b_range (ea_cons (ef_bi call_len c_len T.b_len (ec_cons ((ef_var 9)).b ec_nil)) ea_nil)) (blkOk_by (own := [("n", 16)]) (by kernel_rfl)) (tg_name 16) (fun _ _ _ _ _ => (pg_name (i := 16) S_law.nd rfl (by first | exact Or.inl rfl | exact Or.inr rfl))) (fun _ _ _ _ _ => (ets_one (et_cmp (op_eqA hr.units) o_eq ((ef_ix ix_seq o_ix ((ef_var 11)).b ((ef_var 16)).b)).b (ef_str).b rfl))) (fun _ _ _ _ _ => (ef_ix ix_seq o_ix ((ef_var 9)).b ((ef_var 16)).b)))).b) S_law.nd)
    (ss_cons (ss_set 14 (ef_m1 PySem.F.slot_str_join PySem.F.type_str_join mt_join m_join (ef_str).b ((en_lc rfl S_law.nd (ei_any (ef_revS ((ef_var 13)).b)) (blkOk_by (own := [("sign", 17)]) (by kernel_rfl)) (tg_name 17) (fun _ _ _ _ _ => (pg_name (i := 17) S_law.nd rfl (by first | exact Or.inl rfl | exact Or.inr rfl))) (fun _ _ _ _ _ => ets_nil) (fun _ _ _ _ _ => (ef_dispget (un1 hr) (EPs.cons ef_str (EPs.cons ef_str (EPs.cons ef_str (EPs.cons ef_str EPs.nil)))) (ef_var 17) (by intro ρ c h; exact absurd (show Res.ok _ = Res.exc c from h) (by intro z; cases z)))))).b) S_law.nd)
    (ss_one (ss_if (ew_or (et_cmp (op_neA hr.units) o_ne ((ef_call G_gone (hr.mono (by decide : 6 ≤ 7)) T.g_gone kp_gone b_gone hx (ea_cons (ef_var 4) (ea_cons (ef_var 7) (ea_cons (ef_var 13) ea_nil))))).b ((ef_var 10)).b rfl) (ew_or (et_cmp (op_neA hr.units) o_ne ((ef_call G_gone (hr.mono (by decide : 6 ≤ 7)) T.g_gone kp_gone b_gone hx (ea_cons (ef_var 4) (ea_cons (ef_var 10) (ea_cons (ef_var 14) ea_nil))))).b ((ef_var 7)).b rfl) (ew_or1 (et_cmp (op_inA (un65 hr)) o_in (ef_str).b ((ef_call G_report (hr.mono (by decide : 6 ≤ 7)) T.g_report kp_report b_report hx (ea_cons (ef_var 4) (ea_cons (ef_var 10) (ea_cons (ef_var 14) ea_nil))))).b rfl)))).t (ss_one (ss_ret ef_bl)) ss_nil)))))))))))
    (ss_cons (ss_for (vs := [15]) own rfl (ei_any ((en_lst (ea_cons ef_non (ea_cons ef_int (ea_cons ((en_lst (ea_cons ef_str ea_nil))).fz (ea_cons ef_str (ea_cons ef_str (ea_cons (ef_tup (ea_cons ef_str ea_nil)) (ea_cons ef_bl ea_nil))))))))).fz) (pg_name (i := 15) S_law.nd rfl (by first | exact Or.inl rfl | exact Or.inr rfl)) (tg_name 15)
    (ss_one (ss_if (ew_or (et_cmp (op_neA hr.units) o_ne ((ef_call G__law_error (hr.mono (by decide : 7 ≤ 7)) T.g__law_error kp__law_error b__law_error hx (ea_cons ef_int (ea_cons (ef_var 4) (ea_cons (ef_ix ix_seq o_ix ((ef_var 5)).b (ef_int).b) (ea_cons (ef_var 15) ea_nil)))))).b (ef_str).b rfl) (ew_or1 (et_cmp (op_neA hr.units) o_ne ((ef_call G__law_error (hr.mono (by decide : 7 ≤ 7)) T.g__law_error kp__law_error b__law_error hx (ea_cons ef_int (ea_cons (ef_var 4) (ea_cons (ef_ix ix_seq o_ix ((ef_var 5)).b (ef_int).b) (ea_cons (ef_var 15) ea_nil)))))).b (ef_str).b rfl))).t (ss_one (ss_ret ef_bl)) ss_nil)))
    (ss_one (ss_for (vs := [15]) own rfl (ei_any ((en_lst (ea_cons ef_non (ea_cons (ef_tup (ea_cons ef_int (ea_cons ef_int ea_nil))) (ea_cons (ef_tup (ea_cons ef_int (ea_cons (ef_neg (ef_int).b) ea_nil))) (ea_cons (ef_tup (ea_cons ef_int ea_nil)) (ea_cons ((en_lst (ea_cons ef_int (ea_cons ef_int ea_nil)))).fz (ea_cons (ef_tup (ea_cons ef_bl (ea_cons ef_int ea_nil))) (ea_cons (ef_tup (ea_cons ef_int (ea_cons ef_int (ea_cons ef_int ea_nil)))) ea_nil))))))))).fz) (pg_name (i := 15) S_law.nd rfl (by first | exact Or.inl rfl | exact Or.inr rfl)) (tg_name 15)
    (ss_one (ss_if (ew_or (et_cmp (op_neA hr.units) o_ne ((ef_call G__law_error (hr.mono (by decide : 7 ≤ 7)) T.g__law_error kp__law_error b__law_error hx (ea_cons ef_int (ea_cons (ef_var 4) (ea_cons (ef_var 15) (ea_cons ef_non ea_nil)))))).b (ef_str).b rfl) (ew_or1 (et_cmp (op_neA hr.units) o_ne ((ef_call G__law_error (hr.mono (by decide : 7 ≤ 7)) T.g__law_error kp__law_error b__law_error hx (ea_cons ef_int (ea_cons (ef_var 4) (ea_cons (ef_var 15) (ea_cons ef_non ea_nil)))))).b (ef_str).b rfl))).t (ss_one (ss_ret ef_bl)) ss_nil)))))))))
    (ss_one (ss_ret (ef_and (ef_cmp (op_eqA hr.units) o_eq ((ef_call G_gone (hr.mono (by decide : 6 ≤ 7)) T.g_gone kp_gone b_gone hx (ea_cons (ef_make T.mk_Maze G_Maze hF_Maze (hr.mono (by decide : 2 ≤ 7)) T.g_Maze b_Maze (ea_cons (ef_tup (ea_cons ef_str ea_nil)) ea_nil)) (ea_cons (ef_tup (ea_cons ef_int (ea_cons ef_int ea_nil))) (ea_cons ef_str ea_nil))))).b ((ef_tup (ea_cons ef_int (ea_cons ef_int ea_nil)))).b rfl) (ef_one (ef_cmp (op_eqA hr.units) o_eq ((ef_call G_report (hr.mono (by decide : 6 ≤ 7)) T.g_report kp_report b_report hx (ea_cons (ef_make T.mk_Maze G_Maze hF_Maze (hr.mono (by decide : 2 ≤ 7)) T.g_Maze b_Maze (ea_cons (ef_tup (ea_cons ef_str ea_nil)) ea_nil)) (ea_cons (ef_tup (ea_cons ef_int (ea_cons ef_int ea_nil))) (ea_cons ef_str ea_nil))))).b (ef_str).b rfl)))))))
end
def faL : List He.Fa := [.cls "Maze", .noat "Maze" "height", .noat "Maze" "rows", .noat "Maze" "width", .free "abs", .free "all", .free "bool", .free "int", .free "isinstance", .free "len", .free "range", .free "str", .free "tuple", .glo "BadCell", .glo "BadWord", .glo "Maze", .glo "MazeError", .glo "OTHERS", .glo "STEPS", .glo "_check", .glo "_law_cells", .glo "_law_draws", .glo "_law_error", .glo "_law_led", .glo "_law_near", .glo "_law_rows", .glo "_law_step", .glo "check_open", .glo "gone", .glo "is_cell", .glo "is_open", .glo "is_whole", .glo "is_word", .glo "law", .glo "led", .glo "report", .glo "stepped", .glo "told", .int "MOST" 14, .mkr "Maze", .exc "BadCell", .exc "BadMaze", .glo "BadMaze", .exc "BadWord", .str "OPEN" "."]
def fnL : List He.DefD := [⟨("Maze", some "__init__"), "__init__", "Maze.__init__", defArgs (inClass (top 10) 0), defBody (inClass (top 10) 0), defScope (inClass (top 10) 0), [], []⟩, ⟨("_check", none), "_check", "_check", defArgs (top 17), defBody (top 17), defScope (top 17), [], []⟩, ⟨("_law_cells", none), "_law_cells", "_law_cells", defArgs (top 26), defBody (top 26), defScope (top 26), [], []⟩, ⟨("_law_draws", none), "_law_draws", "_law_draws", defArgs (top 24), defBody (top 24), defScope (top 24), [], []⟩, ⟨("_law_error", none), "_law_error", "_law_error", defArgs (top 30), defBody (top 30), defScope (top 30), [], []⟩, ⟨("_law_led", none), "_law_led", "_law_led", defArgs (top 29), defBody (top 29), defScope (top 29), [], []⟩, ⟨("_law_near", none), "_law_near", "_law_near", defArgs (top 27), defBody (top 27), defScope (top 27), [], []⟩, ⟨("_law_rows", none), "_law_rows", "_law_rows", defArgs (top 25), defBody (top 25), defScope (top 25), [], []⟩, ⟨("_law_step", none), "_law_step", "_law_step", defArgs (top 28), defBody (top 28), defScope (top 28), [], []⟩, ⟨("check_open", none), "check_open", "check_open", defArgs (top 13), defBody (top 13), defScope (top 13), [], []⟩, ⟨("gone", none), "gone", "gone", defArgs (top 20), defBody (top 20), defScope (top 20), [], []⟩, ⟨("is_cell", none), "is_cell", "is_cell", defArgs (top 11), defBody (top 11), defScope (top 11), [], []⟩, ⟨("is_open", none), "is_open", "is_open", defArgs (top 12), defBody (top 12), defScope (top 12), [], []⟩, ⟨("is_whole", none), "is_whole", "is_whole", defArgs (top 9), defBody (top 9), defScope (top 9), [], []⟩, ⟨("is_word", none), "is_word", "is_word", defArgs (top 16), defBody (top 16), defScope (top 16), [], []⟩, ⟨("law", none), "law", "law", defArgs (top 31), defBody (top 31), defScope (top 31), [], []⟩, ⟨("led", none), "led", "led", defArgs (top 19), defBody (top 19), defScope (top 19), [], []⟩, ⟨("report", none), "report", "report", defArgs (top 22), defBody (top 22), defScope (top 22), [], []⟩, ⟨("stepped", none), "stepped", "stepped", defArgs (top 18), defBody (top 18), defScope (top 18), [], []⟩, ⟨("told", none), "told", "told", defArgs (top 21), defBody (top 21), defScope (top 21), [], []⟩]
def tsL : List He.Tab := [(fun K => He.ga K "OTHERS", tb_OTHERS.map (·.1)), (fun K => He.ga K "STEPS", tb_STEPS.map (·.1))]
def exl (K : PySem.W.Frag) : List Bool := [exmB excs sub "BadCell" K, exmB excs sub "MazeError" K, kitB' excs sub "BadWord" K, tblB "OTHERS" tb_OTHERS K, tblB "STEPS" tb_STEPS K]
def exB (K : PySem.W.Frag) : Bool := (exl K).all id
theorem factsOf {w : World} {h : Heap} {K : PySem.W.Frag} {mg : Str → Option Value} (X : K.In h) (G : h.Ns mainGlobals mg) (c : He.SaysX faL fnL tsL [] exB w h K) : Facts w K mg where
  d_Maze := DefK.of (c.t.d.def_ 0 (d := ⟨("Maze", some "__init__"), "__init__", "Maze.__init__", defArgs (inClass (top 10) 0), defBody (inClass (top 10) 0), defScope (inClass (top 10) 0), [], []⟩) rfl) (fun _ _ _ _ _ _ us hl => match us, hl with | [_, _], _ => rfl)
  d__check := DefK.of (c.t.d.def_ 1 (d := ⟨("_check", none), "_check", "_check", defArgs (top 17), defBody (top 17), defScope (top 17), [], []⟩) rfl) (fun _ _ _ _ _ _ us hl => match us, hl with | [_, _, _], _ => rfl)
  d__law_cells := DefK.of (c.t.d.def_ 2 (d := ⟨("_law_cells", none), "_law_cells", "_law_cells", defArgs (top 26), defBody (top 26), defScope (top 26), [], []⟩) rfl) (fun _ _ _ _ _ _ us hl => match us, hl with | [_], _ => rfl)
  d__law_draws := DefK.of (c.t.d.def_ 3 (d := ⟨("_law_draws", none), "_law_draws", "_law_draws", defArgs (top 24), defBody (top 24), defScope (top 24), [], []⟩) rfl) (fun _ _ _ _ _ _ us hl => match us, hl with | [_, _], _ => rfl)
  d__law_error := DefK.of (c.t.d.def_ 4 (d := ⟨("_law_error", none), "_law_error", "_law_error", defArgs (top 30), defBody (top 30), defScope (top 30), [], []⟩) rfl) (fun _ _ _ _ _ _ us hl => match us, hl with | [_, _, _, _], _ => rfl)
  d__law_led := DefK.of (c.t.d.def_ 5 (d := ⟨("_law_led", none), "_law_led", "_law_led", defArgs (top 29), defBody (top 29), defScope (top 29), [], []⟩) rfl) (fun _ _ _ _ _ _ us hl => match us, hl with | [_, _, _], _ => rfl)
  d__law_near := DefK.of (c.t.d.def_ 6 (d := ⟨("_law_near", none), "_law_near", "_law_near", defArgs (top 27), defBody (top 27), defScope (top 27), [], []⟩) rfl) (fun _ _ _ _ _ _ us hl => match us, hl with | [_, _], _ => rfl)
  d__law_rows := DefK.of (c.t.d.def_ 7 (d := ⟨("_law_rows", none), "_law_rows", "_law_rows", defArgs (top 25), defBody (top 25), defScope (top 25), [], []⟩) rfl) (fun _ _ _ _ _ _ us hl => match us, hl with | [_, _, _], _ => rfl)
  d__law_step := DefK.of (c.t.d.def_ 8 (d := ⟨("_law_step", none), "_law_step", "_law_step", defArgs (top 28), defBody (top 28), defScope (top 28), [], []⟩) rfl) (fun _ _ _ _ _ _ us hl => match us, hl with | [_, _, _], _ => rfl)
  d_check_open := DefK.of (c.t.d.def_ 9 (d := ⟨("check_open", none), "check_open", "check_open", defArgs (top 13), defBody (top 13), defScope (top 13), [], []⟩) rfl) (fun _ _ _ _ _ _ us hl => match us, hl with | [_, _], _ => rfl)
  d_gone := DefK.of (c.t.d.def_ 10 (d := ⟨("gone", none), "gone", "gone", defArgs (top 20), defBody (top 20), defScope (top 20), [], []⟩) rfl) (fun _ _ _ _ _ _ us hl => match us, hl with | [_, _, _], _ => rfl)
  d_is_cell := DefK.of (c.t.d.def_ 11 (d := ⟨("is_cell", none), "is_cell", "is_cell", defArgs (top 11), defBody (top 11), defScope (top 11), [], []⟩) rfl) (fun _ _ _ _ _ _ us hl => match us, hl with | [_, _], _ => rfl)
  d_is_open := DefK.of (c.t.d.def_ 12 (d := ⟨("is_open", none), "is_open", "is_open", defArgs (top 12), defBody (top 12), defScope (top 12), [], []⟩) rfl) (fun _ _ _ _ _ _ us hl => match us, hl with | [_, _], _ => rfl)
  d_is_whole := DefK.of (c.t.d.def_ 13 (d := ⟨("is_whole", none), "is_whole", "is_whole", defArgs (top 9), defBody (top 9), defScope (top 9), [], []⟩) rfl) (fun _ _ _ _ _ _ us hl => match us, hl with | [_, _, _], _ => rfl)
  d_is_word := DefK.of (c.t.d.def_ 14 (d := ⟨("is_word", none), "is_word", "is_word", defArgs (top 16), defBody (top 16), defScope (top 16), [], []⟩) rfl) (fun _ _ _ _ _ _ us hl => match us, hl with | [_], _ => rfl)
  d_law := DefK.of (c.t.d.def_ 15 (d := ⟨("law", none), "law", "law", defArgs (top 31), defBody (top 31), defScope (top 31), [], []⟩) rfl) (fun _ _ _ _ _ _ us hl => match us, hl with | [_], _ => rfl)
  d_led := DefK.of (c.t.d.def_ 16 (d := ⟨("led", none), "led", "led", defArgs (top 19), defBody (top 19), defScope (top 19), [], []⟩) rfl) (fun _ _ _ _ _ _ us hl => match us, hl with | [_, _, _], _ => rfl)
  d_report := DefK.of (c.t.d.def_ 17 (d := ⟨("report", none), "report", "report", defArgs (top 22), defBody (top 22), defScope (top 22), [], []⟩) rfl) (fun _ _ _ _ _ _ us hl => match us, hl with | [_, _, _], _ => rfl)
  d_stepped := DefK.of (c.t.d.def_ 18 (d := ⟨("stepped", none), "stepped", "stepped", defArgs (top 18), defBody (top 18), defScope (top 18), [], []⟩) rfl) (fun _ _ _ _ _ _ us hl => match us, hl with | [_, _, _], _ => rfl)
  d_told := DefK.of (c.t.d.def_ 19 (d := ⟨("told", none), "told", "told", defArgs (top 21), defBody (top 21), defScope (top 21), [], []⟩) rfl) (fun _ _ _ _ _ _ us hl => match us, hl with | [_, _, _], _ => rfl)
  exm_BadCell := exmB_ok (allB (l := exl K) c.more 0 rfl)
  exm_MazeError := exmB_ok (allB (l := exl K) c.more 1 rfl)
  fld_Maze_height := fldOk_of (c.t.d.fact 0 (f := .cls "Maze") rfl) (c.t.d.fact 1 (f := .noat "Maze" "height") rfl)
  fld_Maze_rows := fldOk_of (c.t.d.fact 0 (f := .cls "Maze") rfl) (c.t.d.fact 2 (f := .noat "Maze" "rows") rfl)
  fld_Maze_width := fldOk_of (c.t.d.fact 0 (f := .cls "Maze") rfl) (c.t.d.fact 3 (f := .noat "Maze" "width") rfl)
  b_abs := He.free_ok X G (c.t.d.fact 4 (f := .free "abs") rfl)
  b_all := He.free_ok X G (c.t.d.fact 5 (f := .free "all") rfl)
  b_bool := He.free_ok X G (c.t.d.fact 6 (f := .free "bool") rfl)
  b_int := He.free_ok X G (c.t.d.fact 7 (f := .free "int") rfl)
  b_isinstance := He.free_ok X G (c.t.d.fact 8 (f := .free "isinstance") rfl)
  b_len := He.free_ok X G (c.t.d.fact 9 (f := .free "len") rfl)
  b_range := He.free_ok X G (c.t.d.fact 10 (f := .free "range") rfl)
  b_str := He.free_ok X G (c.t.d.fact 11 (f := .free "str") rfl)
  b_tuple := He.free_ok X G (c.t.d.fact 12 (f := .free "tuple") rfl)
  g_BadCell := He.glo_ok X G (c.t.d.fact 13 (f := .glo "BadCell") rfl)
  g_BadWord := He.glo_ok X G (c.t.d.fact 14 (f := .glo "BadWord") rfl)
  g_Maze := He.glo_ok X G (c.t.d.fact 15 (f := .glo "Maze") rfl)
  g_MazeError := He.glo_ok X G (c.t.d.fact 16 (f := .glo "MazeError") rfl)
  g_OTHERS := He.glo_ok X G (c.t.d.fact 17 (f := .glo "OTHERS") rfl)
  g_STEPS := He.glo_ok X G (c.t.d.fact 18 (f := .glo "STEPS") rfl)
  g__check := He.glo_ok X G (c.t.d.fact 19 (f := .glo "_check") rfl)
  g__law_cells := He.glo_ok X G (c.t.d.fact 20 (f := .glo "_law_cells") rfl)
  g__law_draws := He.glo_ok X G (c.t.d.fact 21 (f := .glo "_law_draws") rfl)
  g__law_error := He.glo_ok X G (c.t.d.fact 22 (f := .glo "_law_error") rfl)
  g__law_led := He.glo_ok X G (c.t.d.fact 23 (f := .glo "_law_led") rfl)
  g__law_near := He.glo_ok X G (c.t.d.fact 24 (f := .glo "_law_near") rfl)
  g__law_rows := He.glo_ok X G (c.t.d.fact 25 (f := .glo "_law_rows") rfl)
  g__law_step := He.glo_ok X G (c.t.d.fact 26 (f := .glo "_law_step") rfl)
  g_check_open := He.glo_ok X G (c.t.d.fact 27 (f := .glo "check_open") rfl)
  g_gone := He.glo_ok X G (c.t.d.fact 28 (f := .glo "gone") rfl)
  g_is_cell := He.glo_ok X G (c.t.d.fact 29 (f := .glo "is_cell") rfl)
  g_is_open := He.glo_ok X G (c.t.d.fact 30 (f := .glo "is_open") rfl)
  g_is_whole := He.glo_ok X G (c.t.d.fact 31 (f := .glo "is_whole") rfl)
  g_is_word := He.glo_ok X G (c.t.d.fact 32 (f := .glo "is_word") rfl)
  g_law := He.glo_ok X G (c.t.d.fact 33 (f := .glo "law") rfl)
  g_led := He.glo_ok X G (c.t.d.fact 34 (f := .glo "led") rfl)
  g_report := He.glo_ok X G (c.t.d.fact 35 (f := .glo "report") rfl)
  g_stepped := He.glo_ok X G (c.t.d.fact 36 (f := .glo "stepped") rfl)
  g_told := He.glo_ok X G (c.t.d.fact 37 (f := .glo "told") rfl)
  i_MOST := He.int_ok X G (c.t.d.fact 38 (f := .int "MOST" 14) rfl)
  kit_BadWord := kitB_ok (allB (l := exl K) c.more 2 rfl)
  mk_Maze := He.mkr_ok (c.t.d.fact 39 (f := .mkr "Maze") rfl)
  ra_BadCell := ⟨He.exc_ok (c.t.d.fact 40 (f := .exc "BadCell") rfl), He.glo_ok X G (c.t.d.fact 13 (f := .glo "BadCell") rfl)⟩
  ra_BadMaze := ⟨He.exc_ok (c.t.d.fact 41 (f := .exc "BadMaze") rfl), He.glo_ok X G (c.t.d.fact 42 (f := .glo "BadMaze") rfl)⟩
  ra_BadWord := ⟨He.exc_ok (c.t.d.fact 43 (f := .exc "BadWord") rfl), He.glo_ok X G (c.t.d.fact 14 (f := .glo "BadWord") rfl)⟩
  s_OPEN := He.str_ok X G (c.t.d.fact 44 (f := .str "OPEN" ".") rfl)
  t_OTHERS := ktab_of (saysT_dic c.t 0 (t := (fun K => He.ga K "OTHERS", tb_OTHERS.map (·.1))) rfl) (allB (l := exl K) c.more 3 rfl)
  t_STEPS := ktab_of (saysT_dic c.t 1 (t := (fun K => He.ga K "STEPS", tb_STEPS.map (·.1))) rfl) (allB (l := exl K) c.more 4 rfl)
-- law level 8  top index (top 31)
end K60

namespace K60
open PySem L2 PP
open PP.Res (ok exc bad)
theorem whole_int (i a b : Int) : F_is_whole [.int i, .int a, .int b] = ok (.bl (decide (a ≤ i) && decide (i ≤ b))) := by
  refine runF_rt (ret_ev ?_)
  refine (andV_ev (a := true) (bi_ev (args_ev rfl (args_ev rfl args0)) rfl) fun _ => andV_ev (a := true) (notV_ev (a := false) (bi_ev (args_ev rfl (args_ev rfl args0)) rfl)) fun _ => chain_ev (a := decide (a ≤ i)) (b := decide (i ≤ b)) rfl rfl rfl fun _ => ⟨rfl, rfl⟩).trans ?_
  rfl
theorem whole_bl (i : Bool) (a b : Int) : F_is_whole [.bl i, .int a, .int b] = ok (.bl false) := by
  refine runF_rt (ret_ev ?_)
  refine (andV_ev (a := true) (bi_ev (args_ev rfl (args_ev rfl args0)) rfl) fun _ => andV_ev (a := false) (b := false) (notV_ev (a := true) (bi_ev (args_ev rfl (args_ev rfl args0)) rfl)) fun h => nomatch h).trans rfl
abbrev mz (rows : List (List Nat)) (h w : Nat) : D := .obj "Maze" [("rows", rowsD rows), ("height", .int h), ("width", .int w)]
theorem all_true {α : Type} {l : List α} {p : α → Bool} (h : ∀ a ∈ l, p a = true) : l.all p = true := List.all_eq_true.mpr h
theorem look_others (c : Nat) (h : c = 35 ∨ c = 46) : (tb_OTHERS.lookup (mkS [c])).isSome = true := by
  rcases h with rfl | rfl <;> decide +kernel
theorem chain_le3 {ρ : Sls} {f : Sls → Res D} {n : Nat} (e : f ρ = ok (.int n)) (h1 : 1 ≤ n) (h2 : n ≤ 14) : mT (mChain dLe dLe (mC (.int 1)) f (mC (.int 14))) ρ = ok true := by
  refine t_ev ((chain_ev (a := decide ((1 : Int) ≤ n)) (b := decide ((n : Int) ≤ 14)) rfl e rfl fun _ => ⟨rfl, rfl⟩).trans ?_)
  rw [decide_eq_true (by omega), decide_eq_true (by omega)]
  rfl
theorem items_tup (l : List D) : items (.tup l) = some l := rfl
theorem first_row {rows : List (List Nat)} {h w : Nat} (R : OkRows rows h w) : ∃ a r, rows = a :: r ∧ a.length = w := by
  cases rows with
  | nil => have := R.len; have := R.h1; simp at *; omega
  | cons a r => exact ⟨a, r, rfl, R.wid a (by simp)⟩
theorem maze_ok {rows : List (List Nat)} {h w : Nat} (R : OkRows rows h w) : F_Maze [rowsD rows] = ok (mz rows h w) := by
  obtain ⟨a0, rr, hrows, ha0⟩ := first_row R
  have key : ∀ a, I_Maze a [rowsD rows] = ok (mz rows h w) := fun a => by
    let ρ : Sls := [.me a (.obj "Maze" []), .fz (rowsD rows), .no, .no]
    have v1 : mVar 1 ρ = ok (rowsD rows) := rfl
    have hlen : (rowsL rows).length = h := by rw [List.length_map]; exact R.len
    have ln : mBI dLen [mVar 1] ρ = ok (.int h) := by rw [← hlen]; exact i_lenT v1
    have h14 := R.h2
    have w14 := R.w2
    have ix : mOp2 dIx (mVar 1) (mC (.int 0)) ρ = ok (tx a0) := op2_ev v1 rfl (by rw [dIx_tup (by decide), hrows]; rfl)
    have lw : mBI dLen [mOp2 dIx (mVar 1) (mC (.int 0))] ρ = ok (.int w) := by rw [← ha0]; exact i_lenS ix (by omega)
    have c1 : (mOr (mNot (mT (mBI dIsi [(mVar 1), (mC (.ty "tuple"))]))) (mOr (mNot (mT (mChain dLe dLe (mC (.int 1)) (mBI dLen [(mVar 1)]) (mC (.int 14))))) (mNot (mT (mBI dAll [(mLc (mIt (mVar 1)) [2] (tgName 2) mYes (mBI dIsi [(mVar 2), (mC (.ty "str"))]))]))))) ρ = ok false := by
      refine (or_ev (a := false) (not_ev (a := true) (t_ev (bi_ev (args_ev v1 (args_ev rfl args0)) rfl))) fun _ => or_ev (a := false) (not_ev (a := true) (chain_le3 ln R.h1 R.h2)) fun _ => not_ev (a := true) (t_ev ?_)).trans rfl
      refine bi1 (lc_ev0 (as := rows) (emb := tx) (g := fun _ => D.bl true) (it_ev v1 rfl) fun l hl => ⟨_, rfl, bi_ev (args_ev rfl (args_ev rfl args0)) rfl⟩) ?_
      rw [dAll_map (fun _ => true), all_true fun _ _ => rfl]
    have c2 : (mOr (mNot (mT (mChain dLe dLe (mC (.int 1)) (mBI dLen [(mOp2 dIx (mVar 1) (mC (.int 0)))]) (mC (.int 14))))) (mNot (mT (mBI dAll [(mLc (mIt (mVar 1)) [2] (tgName 2) mYes (mOp2 dEq (mBI dLen [(mVar 2)]) (mBI dLen [(mOp2 dIx (mVar 1) (mC (.int 0)))])))])))) ρ = ok false := by
      refine (or_ev (a := false) (not_ev (a := true) (chain_le3 lw R.w1 R.w2)) fun _ => not_ev (a := true) (t_ev ?_)).trans rfl
      refine bi1 (lc_ev0 (as := rows) (emb := tx) (g := fun _ => D.bl true) (it_ev v1 rfl) fun l hl => ⟨_, rfl, ?_⟩) ?_
      · have q := R.wid l hl
        refine op2_ev (i_lenS (l := l) rfl (by omega)) (i_lenS (l := a0) (op2_ev v1 rfl (by rw [dIx_tup (by decide), hrows]; rfl)) (by omega)) ?_
        rw [dEq_i, q, ha0, decide_eq_true rfl]
      · rw [dAll_map (fun _ => true), all_true fun _ _ => rfl]
    have c3 : (mNot (mT (mBI dAll [(mLc (mIt (mVar 1)) [2] (tgName 2) mYes (mOp2 dEq (mBI dLen [(mLc (mIt (mVar 2)) [3] (tgName 3) (mT (mKNotIn tb_OTHERS (mVar 3))) (mVar 3))]) (mC (.int 0))))]))) ρ = ok false := by
      refine (not_ev (a := true) (t_ev ?_)).trans rfl
      refine bi1 (lc_ev0 (as := rows) (emb := tx) (g := fun _ => D.bl true) (it_ev v1 rfl) fun l hl => ⟨_, rfl, ?_⟩) ?_
      · have q := R.wid l hl
        refine op2_ev (i_lenL (lc_ev (as := l) (emb := sg) (p := fun _ => false) (g := sg) (it_ev rfl (items_tx (by omega))) fun c hc => ⟨_, rfl, t_ev ?_, fun h => nomatch h⟩)) rfl ?_
        · show ok (D.bl (!(tb_OTHERS.lookup (mkS [c])).isSome)) = _
          rw [look_others c (R.sgn l hl c hc)]
          rfl
        · have e : l.filter (fun _ => false) = [] := List.filter_eq_nil_iff.mpr fun _ _ => by simp
          rw [e]
          rfl
      · rw [dAll_map (fun _ => true), all_true fun _ _ => rfl]
    have f1 : sFldS 0 "Maze" "rows" (mVar 1) ρ = .nx [.me a (.obj "Maze" [("rows", rowsD rows)]), .fz (rowsD rows), .no, .no] := rfl
    have f2 : sFldS 0 "Maze" "height" (mBI dLen [(mVar 1)]) [.me a (.obj "Maze" [("rows", rowsD rows)]), .fz (rowsD rows), .no, .no] = .nx [.me a (.obj "Maze" [("rows", rowsD rows), ("height", .int h)]), .fz (rowsD rows), .no, .no] := by
      have : mBI dLen [mVar 1] [.me a (.obj "Maze" [("rows", rowsD rows)]), .fz (rowsD rows), .no, .no] = ok (.int h) := by rw [← hlen]; exact i_lenT rfl
      simp only [sFldS, List.getElem?_cons_zero, this, thenF_ok]
      rfl
    have f3 : sFldS 0 "Maze" "width" (mBI dLen [(mOp2 dIx (mVar 1) (mC (.int 0)))]) [.me a (.obj "Maze" [("rows", rowsD rows), ("height", .int h)]), .fz (rowsD rows), .no, .no] = .nx [.me a (mz rows h w), .fz (rowsD rows), .no, .no] := by
      have : mBI dLen [mOp2 dIx (mVar 1) (mC (.int 0))] [.me a (.obj "Maze" [("rows", rowsD rows), ("height", .int h)]), .fz (rowsD rows), .no, .no] = ok (.int w) := by
        rw [← ha0]
        exact i_lenS (op2_ev rfl rfl (by rw [dIx_tup (by decide), hrows]; rfl)) (by omega)
      simp only [sFldS, List.getElem?_cons_zero, this, thenF_ok]
      rfl
    have e : b_Maze ρ = .nx [.me a (mz rows h w), .fz (rowsD rows), .no, .no] := by
      unfold b_Maze
      exact seq_nx2 (if_nx c1) (seq_nx2 (if_nx c2) (seq_nx2 (if_nx c3) (seq_nx2 f1 (seq_nx2 f2 f3))))
    unfold I_Maze runI
    rw [if_pos (by rfl)]
    have e' : b_Maze (.me a (.obj "Maze" []) :: startS (4 - 1) [rowsD rows]) = .nx [.me a (mz rows h w), .fz (rowsD rows), .no, .no] := e
    rw [e']
    show (if a = a then ok (mz rows h w) else bad) = _
    rw [if_pos rfl]
  unfold F_Maze
  rw [if_pos fun a => (key a).trans (key 0).symm]
  exact key 0
end K60

namespace K60
open PySem L2 PP
open PP.Res (ok exc bad)
abbrev P2 := Int × Int
def inB (h w : Nat) (p : P2) : Bool := (decide (0 ≤ p.1) && decide (p.1 ≤ (h : Int) - 1)) && (decide (0 ≤ p.2) && decide (p.2 ≤ (w : Int) - 1))
def chr (rows : List (List Nat)) (p : P2) : Nat := (rows.getD p.1.toNat []).getD p.2.toNat 0
def opn (rows : List (List Nat)) (h w : Nat) (p : P2) : Bool := inB h w p && decide (chr rows p = 46)
theorem inB_iff {h w : Nat} {p : P2} : inB h w p = true ↔ (0 ≤ p.1 ∧ p.1 < h) ∧ (0 ≤ p.2 ∧ p.2 < w) := by
  unfold inB
  simp only [Bool.and_eq_true, decide_eq_true_eq]
  omega
theorem fld_rows {rows : List (List Nat)} {h w : Nat} {f : Sls → Res D} {ρ : Sls} (e : f ρ = ok (mz rows h w)) : mFld ["Maze"] "rows" f ρ = ok (rowsD rows) := by
  unfold mFld
  rw [e]
  rfl
theorem fld_height {rows : List (List Nat)} {h w : Nat} {f : Sls → Res D} {ρ : Sls} (e : f ρ = ok (mz rows h w)) : mFld ["Maze"] "height" f ρ = ok (.int h) := by
  unfold mFld
  rw [e]
  rfl
theorem fld_width {rows : List (List Nat)} {h w : Nat} {f : Sls → Res D} {ρ : Sls} (e : f ρ = ok (mz rows h w)) : mFld ["Maze"] "width" f ρ = ok (.int w) := by
  unfold mFld
  rw [e]
  rfl
theorem is_cell_pt (rows : List (List Nat)) (h w : Nat) (p : P2) : F_is_cell [mz rows h w, pt p] = ok (.bl (inB h w p)) := by
  refine runF_rt ?_
  let ρ : Sls := [.fz (mz rows h w), .fz (pt p)]
  have c : (mOr (mNot (mT (mBI dIsi [(mVar 1), (mC (.ty "tuple"))]))) (mT (mOp2 dNe (mBI dLen [(mVar 1)]) (mC (.int 2))))) ρ = ok false :=
    (or_ev (a := false) (not_ev (a := true) (t_ev (bi_ev (args_ev rfl (args_ev rfl args0)) rfl))) fun _ => t_ev (op2_ev (bi1 rfl rfl) rfl rfl)).trans rfl
  refine seq_nx2 (if_nx c) (ret_ev ((andV_ev (call_ev (args_ev (op2_ev rfl rfl rfl) (args_ev rfl (args_ev (i_sub (fld_height (rows := rows) (h := h) (w := w) rfl) rfl) args0))) (whole_int p.1 0 _)) fun _ => call_ev (args_ev (op2_ev rfl rfl rfl) (args_ev rfl (args_ev (i_sub (fld_width (rows := rows) (h := h) (w := w) rfl) rfl) args0))) (whole_int p.2 0 _)).trans rfl))
theorem is_open_pt {rows : List (List Nat)} {h w : Nat} (R : OkRows rows h w) (p : P2) : F_is_open [mz rows h w, pt p] = ok (.bl (opn rows h w p)) := by
  refine runF_rt (ret_ev ((andV_ev (b := decide (chr rows p = 46)) (call_ev (args_ev rfl (args_ev rfl args0)) (is_cell_pt rows h w p)) fun hb => ?_).trans rfl))
  obtain ⟨⟨h1, h2⟩, h3, h4⟩ := inB_iff.mp hb
  have hr : p.1.toNat < rows.length := by rw [R.len]; omega
  have hw14 := R.w2
  have hl := R.wid rows[p.1.toNat] (List.getElem_mem hr)
  have hc : p.2.toNat < rows[p.1.toNat].length := by rw [hl]; omega
  have e1 : dIx (rowsD rows) (.int p.1) = some (tx rows[p.1.toNat]) := by
    rw [dIx_tup h1, List.getElem?_map, List.getElem?_eq_getElem hr]
    rfl
  have e2 : dIx (tx rows[p.1.toNat]) (.int p.2) = some (tx [chr rows p]) := by
    rw [dIx_tx (by omega) h3, List.getElem?_eq_getElem hc]
    unfold chr
    rw [List.getD_eq_getElem?_getD, List.getD_eq_getElem?_getD, List.getElem?_eq_getElem hr, Option.getD_some, List.getElem?_eq_getElem hc]
    rfl
  refine op2_ev (op2_ev (op2_ev (fld_rows (rows := rows) (h := h) (w := w) rfl) (op2_ev rfl rfl rfl) e1) (op2_ev rfl rfl rfl) e2) rfl ?_
  rw [lit_dot, dEq_tx]
  simp
theorem is_open_no {m v : D} (h : F_is_cell [m, v] = ok (.bl false)) : F_is_open [m, v] = ok (.bl false) :=
  runF_rt (ret_ev ((andV_ev (b := false) (call_ev (args_ev rfl (args_ev rfl args0)) h) fun z => nomatch z).trans rfl))
theorem check_open_ev {m v : D} {b : Bool} (h : F_is_open [m, v] = ok (.bl b)) : F_check_open [m, .lst [v]] = if b then ok .non else exc "BadCell" := by
  let ρ : Sls := [.fz m, .fz (.lst [v]), .no]
  have c : (mNot (mT (mBI dAll [(mLc (mIt (mVar 1)) [2] (tgName 2) mYes (mCall F_is_open [(mVar 0), (mVar 2)]))]))) ρ = ok (!b) := by
    refine not_ev (t_ev (bi1 (lc_ev0 (as := [v]) (emb := fun z => z) (g := fun _ => D.bl b) (it_ev rfl rfl) fun l hl => ⟨_, rfl, ?_⟩) ?_))
    · rw [List.mem_singleton.mp hl]
      exact call_ev (args_ev rfl (args_ev rfl args0)) h
    · cases b <;> rfl
  cases b with
  | true => exact runF_nx (if_nx c)
  | false => exact runF_exc ((if_t c).trans rfl)
theorem check_ev {m c v : D} {b b2 : Bool} (h : F_is_open [m, c] = ok (.bl b)) (h2 : b = true → F_is_word [v] = ok (.bl b2)) : F__check [m, c, v] = if b then (if b2 then ok .non else exc "BadWord") else exc "BadCell" := by
  have e := check_open_ev h
  have a : mArgs [(mVar 0), (mLst [(mVar 1)])] [.fz m, .fz c, .fz v] = ok [m, .lst [c]] := rfl
  cases b with
  | false => exact runF_exc (seq_exc (drop_exc (call_ev a (e.trans rfl))))
  | true =>
    have d1 : sDrop (mCall F_check_open [(mVar 0), (mLst [(mVar 1)])]) [.fz m, .fz c, .fz v] = .nx [.fz m, .fz c, .fz v] := drop_ev (call_ev a (e.trans rfl))
    have c2 : (mNot (mT (mCall F_is_word [(mVar 2)]))) [.fz m, .fz c, .fz v] = ok (!b2) := not_ev (t_ev (call_ev (args_ev rfl args0) (h2 rfl)))
    cases b2 with
    | true => exact runF_nx (seq_nx2 d1 (if_nx c2))
    | false => exact runF_exc (seq_nx2 d1 ((if_t c2).trans rfl))
theorem gone_ev {m c v : D} {b b2 : Bool} (h : F_is_open [m, c] = ok (.bl b)) (h2 : b = true → F_is_word [v] = ok (.bl b2)) : F_gone [m, c, v] = if b then (if b2 then F_led [m, c, v] else exc "BadWord") else exc "BadCell" := by
  have e := check_ev h h2
  have a : mArgs [(mVar 0), (mVar 1), (mVar 2)] [.fz m, .fz c, .fz v] = ok [m, c, v] := rfl
  cases b with
  | false => exact runF_exc (seq_exc (drop_exc (call_ev a (e.trans rfl))))
  | true =>
    cases b2 with
    | false => exact runF_exc (seq_exc (drop_exc (call_ev a (e.trans rfl))))
    | true =>
      have d1 : sDrop (mCall F__check [(mVar 0), (mVar 1), (mVar 2)]) [.fz m, .fz c, .fz v] = .nx [.fz m, .fz c, .fz v] := drop_ev (call_ev a (e.trans rfl))
      show runF 3 3 b_gone [m, c, v] = F_led [m, c, v]
      have d2 : mCall F_led [(mVar 0), (mVar 1), (mVar 2)] [.fz m, .fz c, .fz v] = F_led [m, c, v] := call_ev a rfl
      unfold runF
      rw [if_pos (by rfl)]
      have d3 : b_gone (startS 3 [m, c, v]) = sRet (mCall F_led [(mVar 0), (mVar 1), (mVar 2)]) [.fz m, .fz c, .fz v] := seq_nx d1
      rw [d3]
      unfold sRet
      rw [d2]
      cases F_led [m, c, v] <;> rfl
theorem report_ev {m c v : D} {b b2 : Bool} (h : F_is_open [m, c] = ok (.bl b)) (h2 : b = true → F_is_word [v] = ok (.bl b2)) : F_report [m, c, v] = if b then (if b2 then F_told [m, c, v] else exc "BadWord") else exc "BadCell" := by
  have e := check_ev h h2
  have a : mArgs [(mVar 0), (mVar 1), (mVar 2)] [.fz m, .fz c, .fz v] = ok [m, c, v] := rfl
  cases b with
  | false => exact runF_exc (seq_exc (drop_exc (call_ev a (e.trans rfl))))
  | true =>
    cases b2 with
    | false => exact runF_exc (seq_exc (drop_exc (call_ev a (e.trans rfl))))
    | true =>
      have d1 : sDrop (mCall F__check [(mVar 0), (mVar 1), (mVar 2)]) [.fz m, .fz c, .fz v] = .nx [.fz m, .fz c, .fz v] := drop_ev (call_ev a (e.trans rfl))
      show runF 3 3 b_report [m, c, v] = F_told [m, c, v]
      have d2 : mCall F_told [(mVar 0), (mVar 1), (mVar 2)] [.fz m, .fz c, .fz v] = F_told [m, c, v] := call_ev a rfl
      unfold runF
      rw [if_pos (by rfl)]
      have d3 : b_report (startS 3 [m, c, v]) = sRet (mCall F_told [(mVar 0), (mVar 1), (mVar 2)]) [.fz m, .fz c, .fz v] := seq_nx d1
      rw [d3]
      unfold sRet
      rw [d2]
      cases F_told [m, c, v] <;> rfl
/-! ### words -/
def isDir (c : Nat) : Bool := c == 100 || (c == 108 || (c == 114 || c == 117))
theorem lits : Str.ofString "d" = mkS [100] ∧ Str.ofString "l" = mkS [108] ∧ Str.ofString "r" = mkS [114] ∧ Str.ofString "u" = mkS [117] := by decide +kernel
theorem mk1_beq (c k : Nat) : (mkS [c] == mkS [k]) = (c == k) := by
  show decide (mkS [c] = mkS [k]) = decide (c = k)
  simp [mkS_inj]
theorem steps_look (c : Nat) : (tb_STEPS.lookup (mkS [c])).isSome = isDir c := by
  unfold tb_STEPS isDir
  obtain ⟨e1, e2, e3, e4⟩ := lits
  rw [e1, e2, e3, e4]
  simp only [List.lookup_cons, mk1_beq]
  cases c == 100 <;> cases c == 108 <;> cases c == 114 <;> cases c == 117 <;> rfl
theorem is_word_tx {l : List Nat} (h : l.length ≤ 1000) : F_is_word [tx l] = ok (.bl (l.all isDir)) := by
  refine runF_rt (ret_ev ((andV_ev (a := true) (bi_ev (args_ev rfl (args_ev rfl args0)) rfl) fun _ => bi1 (lc_ev0 (as := l) (emb := sg) (g := fun c => D.bl (isDir c)) (it_ev rfl (items_tx (by omega))) fun c hc => ⟨_, rfl, ?_⟩) (dAll_map isDir l)).trans rfl))
  show ok (D.bl (tb_STEPS.lookup (mkS [c])).isSome) = _
  rw [steps_look]
theorem is_word_no {v : D} (h : dIsi [v, .ty "str"] = some (.bl false)) : F_is_word [v] = ok (.bl false) :=
  runF_rt (ret_ev ((andV_ev (a := false) (b := false) (bi_ev (args_ev rfl (args_ev rfl args0)) h) fun z => nomatch z).trans rfl))
/-! ### steps -/
def dlt (c : Nat) : P2 := if c = 100 then (1, 0) else if c = 108 then (0, -1) else if c = 114 then (0, 1) else (-1, 0)
def nxt (p : P2) (c : Nat) : P2 := (p.1 + (dlt c).1, p.2 + (dlt c).2)
def stp (rows : List (List Nat)) (h w : Nat) (p : P2) (c : Nat) : P2 := if opn rows h w (nxt p c) = true then nxt p c else p
theorem steps_get {c : Nat} (h : isDir c = true) : tb_STEPS.lookup (mkS [c]) = some (pt (dlt c)) := by
  unfold isDir at h
  simp only [Bool.or_eq_true, beq_iff_eq] at h
  rcases h with rfl | rfl | rfl | rfl <;> rfl
theorem stepped_ok {rows : List (List Nat)} {h w : Nat} (R : OkRows rows h w) (p : P2) {c : Nat} (hc : isDir c = true) : F_stepped [mz rows h w, pt p, sg c] = ok (pt (stp rows h w p c)) := by
  refine runF_rt ?_
  let ρ : Sls := [.fz (mz rows h w), .fz (pt p), .fz (sg c), .no, .no, .no]
  have g : mKGet tb_STEPS (mVar 2) ρ = ok (pt (dlt c)) := by
    show ofO (tb_STEPS.lookup (mkS [c])) = _
    rw [steps_get hc]
    rfl
  refine seq_nx2 (asg2_ev g) (seq_nx2 (set_ev (tup_ev (args_ev (i_add (op2_ev rfl rfl rfl) rfl) (args_ev (i_add (op2_ev rfl rfl rfl) rfl) args0)))) ?_)
  have o := is_open_pt R (nxt p c)
  refine (ret_ev (if_ev (t_ev (call_ev (args_ev rfl (args_ev rfl args0)) o)) (fun _ => rfl) (fun _ => rfl))).trans ?_
  unfold stp
  by_cases ho : opn rows h w (nxt p c) = true
  · rw [if_pos ho, if_pos ho]; rfl
  · rw [if_neg ho, if_neg ho]
def run (rows : List (List Nat)) (h w : Nat) (p : P2) (l : List Nat) : P2 := l.foldl (stp rows h w) p
def tld (rows : List (List Nat)) (h w : Nat) : P2 → List Nat → List Nat
  | _, [] => []
  | p, c :: l => (if stp rows h w p c = p then 48 else 49) :: tld rows h w (stp rows h w p c) l
theorem tld_length (rows : List (List Nat)) (h w : Nat) : ∀ (l : List Nat) (p : P2), (tld rows h w p l).length = l.length
  | [], _ => rfl
  | c :: l, p => congrArg (· + 1) (tld_length rows h w l _)
theorem led_ok {rows : List (List Nat)} {h w : Nat} (R : OkRows rows h w) (p : P2) {l : List Nat} (hl : l.length ≤ 1000) (hd : l.all isDir = true) : F_led [mz rows h w, pt p, tx l] = ok (pt (run rows h w p l)) := by
  refine runF_rt ?_
  have it : mIt (mVar 2) (startS 4 [mz rows h w, pt p, tx l]) = ok (l.map sg) := it_ev rfl (items_tx (by omega))
  have key : ∀ (l : List Nat) (q : P2) (s : Sl) (l0 : D), l.all isDir = true → ∃ s', forL (fun x ρ => thenF (tgName 3 x ρ).quiet ρ (sSet 1 (mCall F_stepped [(mVar 0), (mVar 1), (mVar 3)]))) (l.map sg) [.fz (mz rows h w), .fz (pt q), .fz l0, s] = .nx [.fz (mz rows h w), .fz (pt (run rows h w q l)), .fz l0, s'] := by
    intro l
    induction l with
    | nil => exact fun q s l0 _ => ⟨s, rfl⟩
    | cons c r ih =>
      intro q s l0 hd
      rw [List.all_cons, Bool.and_eq_true] at hd
      obtain ⟨s', e⟩ := ih (stp rows h w q c) (.fz (sg c)) l0 hd.2
      refine ⟨s', ?_⟩
      have st : sSet 1 (mCall F_stepped [(mVar 0), (mVar 1), (mVar 3)]) [.fz (mz rows h w), .fz (pt q), .fz l0, .fz (sg c)] = .nx [.fz (mz rows h w), .fz (pt (stp rows h w q c)), .fz l0, .fz (sg c)] := set_ev (call_ev (args_ev rfl (args_ev rfl (args_ev rfl args0))) (stepped_ok R q hd.1))
      show (match (sSet 1 (mCall F_stepped [(mVar 0), (mVar 1), (mVar 3)]) [.fz (mz rows h w), .fz (pt q), .fz l0, .fz (sg c)]) with
        | .nx ρ' => forL _ (r.map sg) ρ'
        | .ct ρ' => forL _ (r.map sg) ρ'
        | .bk ρ' => .nx ρ'
        | .rt d => .rt d
        | .exc c ρ' => .exc c ρ'
        | .bad => .bad) = _
      rw [st]
      exact e
  obtain ⟨s', e⟩ := key l p .no (tx l) hd
  exact seq_nx2 ((for_ev it).trans e) rfl
theorem told_ok {rows : List (List Nat)} {h w : Nat} (R : OkRows rows h w) (p : P2) {l : List Nat} (hl : l.length ≤ 1000) (hd : l.all isDir = true) : F_told [mz rows h w, pt p, tx l] = ok (tx (tld rows h w p l)) := by
  refine runF_rt ?_
  have i0 : sSet 3 (mC (.str "")) (startS 6 [mz rows h w, pt p, tx l]) = .nx [.fz (mz rows h w), .fz (pt p), .fz (tx l), .fz (tx []), .no, .no] := by rw [lit_nil]; rfl
  have it : mIt (mVar 2) [.fz (mz rows h w), .fz (pt p), .fz (tx l), .fz (tx []), .no, .no] = ok (l.map sg) := it_ev rfl (items_tx (by omega))
  have key : ∀ (l : List Nat) (q : P2) (t : List Nat) (s4 s5 : Sl) (l0 : D), l.all isDir = true → t.length + l.length ≤ 1000 → ∃ q' s4' s5', forL (fun x ρ => thenF (tgName 4 x ρ).quiet ρ (sSeq (sSet 5 (mCall F_stepped [(mVar 0), (mVar 1), (mVar 4)]))
    (sSeq (sSet 3 (mOp2 dAdd (mVar 3) (mIf (mT (mOp2 dEq (mVar 5) (mVar 1))) (mC (.str "0")) (mC (.str "1")))))
    (sSet 1 (mVar 5))))) (l.map sg) [.fz (mz rows h w), .fz (pt q), .fz l0, .fz (tx t), s4, s5] = .nx [.fz (mz rows h w), q', .fz l0, .fz (tx (t ++ tld rows h w q l)), s4', s5'] := by
    intro l
    induction l with
    | nil => exact fun q t s4 s5 l0 _ _ => ⟨_, _, _, by unfold tld; rw [List.append_nil]; rfl⟩
    | cons c r ih =>
      intro q t s4 s5 l0 hd hb
      rw [List.all_cons, Bool.and_eq_true] at hd
      rw [List.length_cons] at hb
      obtain ⟨q', s4', s5', e⟩ := ih (stp rows h w q c) (t ++ [if stp rows h w q c = q then 48 else 49]) (.fz (sg c)) (.fz (pt (stp rows h w q c))) l0 hd.2 (by simp; omega)
      refine ⟨q', s4', s5', ?_⟩
      have t1 : sSet 5 (mCall F_stepped [(mVar 0), (mVar 1), (mVar 4)]) [.fz (mz rows h w), .fz (pt q), .fz l0, .fz (tx t), .fz (sg c), s5] = .nx [.fz (mz rows h w), .fz (pt q), .fz l0, .fz (tx t), .fz (sg c), .fz (pt (stp rows h w q c))] := set_ev (call_ev (args_ev rfl (args_ev rfl (args_ev rfl args0))) (stepped_ok R q hd.1))
      have t2 : sSet 3 (mOp2 dAdd (mVar 3) (mIf (mT (mOp2 dEq (mVar 5) (mVar 1))) (mC (.str "0")) (mC (.str "1")))) [.fz (mz rows h w), .fz (pt q), .fz l0, .fz (tx t), .fz (sg c), .fz (pt (stp rows h w q c))] = .nx [.fz (mz rows h w), .fz (pt q), .fz l0, .fz (tx (t ++ [if stp rows h w q c = q then 48 else 49])), .fz (sg c), .fz (pt (stp rows h w q c))] := by
        refine set_ev (op2_ev rfl (if_ev (t_eqP rfl rfl) (fun _ => rfl) (fun _ => rfl)) ?_)
        have lz : Str.ofString "0" = mkS [48] ∧ Str.ofString "1" = mkS [49] := by decide +kernel
        rw [lz.1, lz.2]
        by_cases hq : stp rows h w q c = q
        · rw [if_pos (decide_eq_true hq), if_pos hq]
          exact dAdd_tx (by simp; omega)
        · rw [if_neg (by simpa using hq), if_neg hq]
          exact dAdd_tx (by simp; omega)
      have st := seq_nx2 t1 (seq_nx2 (t := sSet 1 (mVar 5)) t2 rfl)
      have e2 : tld rows h w q (c :: r) = (if stp rows h w q c = q then 48 else 49) :: tld rows h w (stp rows h w q c) r := rfl
      rw [e2, show t ++ (if stp rows h w q c = q then 48 else 49) :: tld rows h w (stp rows h w q c) r = (t ++ [if stp rows h w q c = q then 48 else 49]) ++ tld rows h w (stp rows h w q c) r by simp]
      rw [← e]
      show (match (sSeq _ _ [.fz (mz rows h w), .fz (pt q), .fz l0, .fz (tx t), .fz (sg c), s5]) with
        | .nx ρ' => forL _ (r.map sg) ρ'
        | .ct ρ' => forL _ (r.map sg) ρ'
        | .bk ρ' => .nx ρ'
        | .rt d => .rt d
        | .exc c ρ' => .exc c ρ'
        | .bad => .bad) = _
      rw [st]
      rfl
  obtain ⟨q', s4', s5', e⟩ := key l p [] .no .no (tx l) hd (by simpa using hl)
  exact seq_nx2 i0 (seq_nx2 ((for_ev it).trans e) rfl)
end K60

namespace K60
open PySem L2 PP
open PP.Res (ok exc bad)
variable {rows : List (List Nat)} {h w : Nat}
theorem forL_nx {step : D → Sls → Fl} {x : D} {xs : List D} {ρ ρ' : Sls} (e : step x ρ = .nx ρ') : forL step (x :: xs) ρ = forL step xs ρ' := by
  show (match step x ρ with
    | .nx ρ' => forL step xs ρ'
    | .ct ρ' => forL step xs ρ'
    | .bk ρ' => .nx ρ'
    | .rt d => .rt d
    | .exc c ρ' => .exc c ρ'
    | .bad => .bad) = _
  rw [e]
def add (p d : P2) : P2 := (p.1 + d.1, p.2 + d.2)
theorem row0 (R : OkRows rows h w) {f : Sls → Res D} {ρ : Sls} (e : f ρ = ok (rowsD rows)) : mBI dLen [mOp2 dIx f (mC (.int 0))] ρ = ok (.int w) := by
  obtain ⟨a, r, hr, ha⟩ := first_row R
  have w14 := R.w2
  rw [← ha]
  exact i_lenS (op2_ev e rfl (by rw [dIx_tup (by decide), hr]; rfl)) (by omega)
theorem lenR (R : OkRows rows h w) {f : Sls → Res D} {ρ : Sls} (e : f ρ = ok (rowsD rows)) : mBI dLen [f] ρ = ok (.int h) := by
  have hlen : (rowsL rows).length = h := by rw [List.length_map]; exact R.len
  rw [← hlen]
  exact i_lenT e
theorem sign_at (R : OkRows rows h w) {p : P2} (h1 : 0 ≤ p.1) (h2 : p.1 < h) (h3 : 0 ≤ p.2) (h4 : p.2 < w) {f g k : Sls → Res D} {ρ : Sls} (e1 : f ρ = ok (rowsD rows)) (e2 : g ρ = ok (.int p.1)) (e3 : k ρ = ok (.int p.2)) :
    mOp2 dEq (mOp2 dIx (mOp2 dIx f g) k) (mC (.str ".")) ρ = ok (.bl (decide (chr rows p = 46))) := by
  have hr : p.1.toNat < rows.length := by rw [R.len]; omega
  have hw14 := R.w2
  have hl := R.wid rows[p.1.toNat] (List.getElem_mem hr)
  have hc : p.2.toNat < rows[p.1.toNat].length := by rw [hl]; omega
  have x1 : dIx (rowsD rows) (.int p.1) = some (tx rows[p.1.toNat]) := by
    rw [dIx_tup h1, List.getElem?_map, List.getElem?_eq_getElem hr]
    rfl
  have x2 : dIx (tx rows[p.1.toNat]) (.int p.2) = some (tx [chr rows p]) := by
    rw [dIx_tx (by omega) h3, List.getElem?_eq_getElem hc]
    unfold chr
    rw [List.getD_eq_getElem?_getD, List.getD_eq_getElem?_getD, List.getElem?_eq_getElem hr, Option.getD_some, List.getElem?_eq_getElem hc]
    rfl
  refine op2_ev (op2_ev (op2_ev e1 e2 x1) e3 x2) rfl ?_
  rw [lit_dot, dEq_tx]
  simp
def one (rows : List (List Nat)) (h w : Nat) (p d : P2) : List P2 := if opn rows h w (add p d) = true then [add p d] else []
theorem one_len (p d : P2) : (one rows h w p d).length ≤ 1 := by
  unfold one
  split <;> simp
theorem rangeD0 (n : Nat) : rangeD 0 n = (List.range n).map fun k : Nat => D.int (k : Int) := by
  rw [rangeD_map]
  exact List.map_congr_left fun k _ => by rw [Int.zero_add]
theorem near_step (R : OkRows rows h w) (p d : P2) (acc : List P2) (s3 s4 : Sl) (hacc : acc.length ≤ 1000) :
    ∃ s3' s4', thenF (tgName 3 (pt d) [.fz (rowsD rows), .fz (pt p), .ow (.lst (acc.map pt)), s3, s4]).quiet [.fz (rowsD rows), .fz (pt p), .ow (.lst (acc.map pt)), s3, s4] (sSeq (sSet 4 (mTup [(mOp2 dAdd (mOp2 dIx (mVar 1) (mC (.int 0))) (mOp2 dIx (mVar 3) (mC (.int 0)))), (mOp2 dAdd (mOp2 dIx (mVar 1) (mC (.int 1))) (mOp2 dIx (mVar 3) (mC (.int 1))))]))
    (sIf (mAnd (mT (mChain dLe dLt (mC (.int 0)) (mOp2 dIx (mVar 4) (mC (.int 0))) (mBI dLen [(mVar 0)]))) (mAnd (mT (mChain dLe dLt (mC (.int 0)) (mOp2 dIx (mVar 4) (mC (.int 1))) (mBI dLen [(mOp2 dIx (mVar 0) (mC (.int 0)))]))) (mT (mOp2 dEq (mOp2 dIx (mOp2 dIx (mVar 0) (mOp2 dIx (mVar 4) (mC (.int 0)))) (mOp2 dIx (mVar 4) (mC (.int 1)))) (mC (.str ".")))))) (sApp 2 (mVar 4)) sNx)) = .nx [.fz (rowsD rows), .fz (pt p), .ow (.lst ((acc ++ one rows h w p d).map pt)), s3', s4'] := by
  refine ⟨.fz (pt d), .fz (pt (add p d)), ?_⟩
  let ρ : Sls := [.fz (rowsD rows), .fz (pt p), .ow (.lst (acc.map pt)), .fz (pt d), .fz (pt (add p d))]
  have t1 : sSet 4 (mTup [(mOp2 dAdd (mOp2 dIx (mVar 1) (mC (.int 0))) (mOp2 dIx (mVar 3) (mC (.int 0)))), (mOp2 dAdd (mOp2 dIx (mVar 1) (mC (.int 1))) (mOp2 dIx (mVar 3) (mC (.int 1))))]) [.fz (rowsD rows), .fz (pt p), .ow (.lst (acc.map pt)), .fz (pt d), s4] = .nx ρ := set_ev (tup_ev (args_ev (i_add (op2_ev rfl rfl rfl) (op2_ev rfl rfl rfl)) (args_ev (i_add (op2_ev rfl rfl rfl) (op2_ev rfl rfl rfl)) args0)))
  have x0 : mOp2 dIx (mVar 4) (mC (.int 0)) ρ = ok (.int (add p d).1) := op2_ev rfl rfl rfl
  have x1 : mOp2 dIx (mVar 4) (mC (.int 1)) ρ = ok (.int (add p d).2) := op2_ev rfl rfl rfl
  have c : (mAnd (mT (mChain dLe dLt (mC (.int 0)) (mOp2 dIx (mVar 4) (mC (.int 0))) (mBI dLen [(mVar 0)]))) (mAnd (mT (mChain dLe dLt (mC (.int 0)) (mOp2 dIx (mVar 4) (mC (.int 1))) (mBI dLen [(mOp2 dIx (mVar 0) (mC (.int 0)))]))) (mT (mOp2 dEq (mOp2 dIx (mOp2 dIx (mVar 0) (mOp2 dIx (mVar 4) (mC (.int 0)))) (mOp2 dIx (mVar 4) (mC (.int 1)))) (mC (.str ".")))))) ρ = ok (opn rows h w (add p d)) := by
    refine (and_ev (t_ev (chain_ev (a := decide (0 ≤ (add p d).1)) (b := decide ((add p d).1 < (h : Int))) rfl x0 rfl fun _ => ⟨lenR R rfl, rfl⟩)) fun ha => and_ev (t_ev (chain_ev (a := decide (0 ≤ (add p d).2)) (b := decide ((add p d).2 < (w : Int))) rfl x1 rfl fun _ => ⟨row0 R rfl, rfl⟩)) fun hb => t_ev (sign_at R (p := add p d) ?_ ?_ ?_ ?_ rfl x0 x1)).trans ?_
    · simp at ha; exact ha.1
    · simp at ha; exact ha.2
    · simp at hb; exact hb.1
    · simp at hb; exact hb.2
    · congr 1
      unfold opn
      rw [Bool.eq_iff_iff]
      simp only [Bool.and_eq_true, inB_iff, decide_eq_true_eq]
      constructor
      · rintro ⟨⟨a, b⟩, ⟨c, d⟩, e⟩; exact ⟨⟨⟨a, b⟩, c, d⟩, e⟩
      · rintro ⟨⟨⟨a, b⟩, c, d⟩, e⟩; exact ⟨⟨a, b⟩, ⟨c, d⟩, e⟩
  rw [for_name]
  refine (seq_nx t1).trans ?_
  unfold one
  by_cases ho : opn rows h w (add p d) = true
  · rw [ho] at c
    rw [if_t c, if_pos ho, app_ev (xs := acc.map pt) (u := pt (add p d)) rfl rfl (by rw [List.length_map]; omega), List.map_append]
    rfl
  · rw [show opn rows h w (add p d) = false by simpa using ho] at c
    rw [if_f c, if_neg ho, List.append_nil]
    rfl
def four : List P2 := [(-1, 0), (0, -1), (0, 1), (1, 0)]
def nears (rows : List (List Nat)) (h w : Nat) (p : P2) : List P2 := (four.map (add p)).filter fun q => opn rows h w q
theorem near_ok (R : OkRows rows h w) (p : P2) : F__law_near [rowsD rows, pt p] = ok (.lst ((nears rows h w p).map pt)) := by
  refine runF_rt ?_
  have i0 : sSetO 2 (mLst []) (startS 5 [rowsD rows, pt p]) = .nx [.fz (rowsD rows), .fz (pt p), .ow (.lst []), .no, .no] := rfl
  have it : mIt (mLst [(mTup [(mOp1 dNeg (mC (.int 1))), (mC (.int 0))]), (mTup [(mC (.int 0)), (mOp1 dNeg (mC (.int 1)))]), (mTup [(mC (.int 0)), (mC (.int 1))]), (mTup [(mC (.int 1)), (mC (.int 0))])]) [.fz (rowsD rows), .fz (pt p), .ow (.lst []), .no, .no] = ok [pt (-1, 0), pt (0, -1), pt (0, 1), pt (1, 0)] := rfl
  have l1 := one_len (rows := rows) (h := h) (w := w) p (-1, 0)
  have l2 := one_len (rows := rows) (h := h) (w := w) p (0, -1)
  have l3 := one_len (rows := rows) (h := h) (w := w) p (0, 1)
  obtain ⟨a3, a4, ea⟩ := near_step R p (-1, 0) [] .no .no (by simp)
  obtain ⟨b3, b4, eb⟩ := near_step R p (0, -1) ([] ++ one rows h w p (-1, 0)) a3 a4 (by simp; omega)
  obtain ⟨c3, c4, ec⟩ := near_step R p (0, 1) ([] ++ one rows h w p (-1, 0) ++ one rows h w p (0, -1)) b3 b4 (by simp; omega)
  obtain ⟨d3, d4, ed⟩ := near_step R p (1, 0) ([] ++ one rows h w p (-1, 0) ++ one rows h w p (0, -1) ++ one rows h w p (0, 1)) c3 c4 (by simp; omega)
  refine seq_nx2 i0 (seq_nx2 ((for_ev it).trans ((forL_nx ea).trans ((forL_nx eb).trans ((forL_nx ec).trans (forL_nx ed))))) ?_)
  show Fl.rt _ = Fl.rt _
  congr 3
  unfold nears four one
  simp only [List.map_cons, List.map_nil, List.filter_cons, List.filter_nil]
  cases opn rows h w (add p (-1, 0)) <;> cases opn rows h w (add p (0, -1)) <;> cases opn rows h w (add p (0, 1)) <;> cases opn rows h w (add p (1, 0)) <;> rfl
theorem nxt_near (p : P2) {c : Nat} (hc : isDir c = true) : decide (nxt p c ∈ nears rows h w p) = opn rows h w (nxt p c) := by
  have hm : nxt p c ∈ four.map (add p) := by
    unfold isDir at hc
    simp only [Bool.or_eq_true, beq_iff_eq] at hc
    rcases hc with rfl | rfl | rfl | rfl <;> simp [four, nxt, dlt, add]
  unfold nears
  rw [Bool.eq_iff_iff, decide_eq_true_eq, List.mem_filter]
  exact ⟨fun z => z.2, fun z => ⟨hm, z⟩⟩
theorem step_ok (R : OkRows rows h w) (p : P2) {c : Nat} (hc : isDir c = true) : F__law_step [rowsD rows, pt p, sg c] = ok (pt (stp rows h w p c)) := by
  refine runF_rt ?_
  let ρ : Sls := [.fz (rowsD rows), .fz (pt p), .fz (sg c), .no, .no]
  have g : mDispGet [("d", (mTup [(mC (.int 1)), (mC (.int 0))])), ("l", (mTup [(mC (.int 0)), (mOp1 dNeg (mC (.int 1)))])), ("r", (mTup [(mC (.int 0)), (mC (.int 1))])), ("u", (mTup [(mOp1 dNeg (mC (.int 1))), (mC (.int 0))]))] (mVar 2) ρ = ok (pt (dlt c)) := by
    unfold isDir at hc
    simp only [Bool.or_eq_true, beq_iff_eq] at hc
    rcases hc with rfl | rfl | rfl | rfl <;> rfl
  refine seq_nx2 (set_ev g) (seq_nx2 (set_ev (tup_ev (args_ev (i_add (op2_ev rfl rfl rfl) (op2_ev rfl rfl rfl)) (args_ev (i_add (op2_ev rfl rfl rfl) (op2_ev rfl rfl rfl)) args0)))) ?_)
  refine (ret_ev (if_ev (t_ev (op2_ev (b := .lst ((nears rows h w p).map pt)) (c := .bl (opn rows h w (nxt p c))) rfl (call_ev (args_ev rfl (args_ev rfl args0)) (near_ok R p)) ?_)) (fun _ => rfl) (fun _ => rfl))).trans ?_
  · rw [← nxt_near p hc]
    exact dIn_pt (nxt p c) _
  · unfold stp
    by_cases ho : opn rows h w (nxt p c) = true
    · rw [if_pos ho, if_pos ho]; rfl
    · rw [if_neg ho, if_neg ho]
theorem lled_ok (R : OkRows rows h w) (p : P2) {l : List Nat} (hl : l.length ≤ 1000) (hd : l.all isDir = true) : F__law_led [rowsD rows, pt p, tx l] = ok (.tup [pt (run rows h w p l), tx (tld rows h w p l)]) := by
  refine runF_rt ?_
  have i0 : sSet 3 (mC (.str "")) (startS 6 [rowsD rows, pt p, tx l]) = .nx [.fz (rowsD rows), .fz (pt p), .fz (tx l), .fz (tx []), .no, .no] := by rw [lit_nil]; rfl
  have it : mIt (mVar 2) [.fz (rowsD rows), .fz (pt p), .fz (tx l), .fz (tx []), .no, .no] = ok (l.map sg) := it_ev rfl (items_tx (by omega))
  have key : ∀ (l : List Nat) (q : P2) (t : List Nat) (s4 s5 : Sl) (l0 : D), l.all isDir = true → t.length + l.length ≤ 1000 → ∃ s4' s5', forL (fun x ρ => thenF (tgName 4 x ρ).quiet ρ (sSeq (sSet 5 (mCall F__law_step [(mVar 0), (mVar 1), (mVar 4)]))
    (sPar 1 3 (mVar 5) (mOp2 dAdd (mVar 3) (mIf (mT (mOp2 dEq (mVar 5) (mVar 1))) (mC (.str "0")) (mC (.str "1"))))))) (l.map sg) [.fz (rowsD rows), .fz (pt q), .fz l0, .fz (tx t), s4, s5] = .nx [.fz (rowsD rows), .fz (pt (run rows h w q l)), .fz l0, .fz (tx (t ++ tld rows h w q l)), s4', s5'] := by
    intro l
    induction l with
    | nil => exact fun q t s4 s5 l0 _ _ => ⟨_, _, by unfold tld; rw [List.append_nil]; rfl⟩
    | cons c r ih =>
      intro q t s4 s5 l0 hd hb
      rw [List.all_cons, Bool.and_eq_true] at hd
      rw [List.length_cons] at hb
      obtain ⟨s4', s5', e⟩ := ih (stp rows h w q c) (t ++ [if stp rows h w q c = q then 48 else 49]) (.fz (sg c)) (.fz (pt (stp rows h w q c))) l0 hd.2 (by simp; omega)
      refine ⟨s4', s5', ?_⟩
      have t1 : sSet 5 (mCall F__law_step [(mVar 0), (mVar 1), (mVar 4)]) [.fz (rowsD rows), .fz (pt q), .fz l0, .fz (tx t), .fz (sg c), s5] = .nx [.fz (rowsD rows), .fz (pt q), .fz l0, .fz (tx t), .fz (sg c), .fz (pt (stp rows h w q c))] := set_ev (call_ev (args_ev rfl (args_ev rfl (args_ev rfl args0))) (step_ok R q hd.1))
      have t2 : sPar 1 3 (mVar 5) (mOp2 dAdd (mVar 3) (mIf (mT (mOp2 dEq (mVar 5) (mVar 1))) (mC (.str "0")) (mC (.str "1")))) [.fz (rowsD rows), .fz (pt q), .fz l0, .fz (tx t), .fz (sg c), .fz (pt (stp rows h w q c))] = .nx [.fz (rowsD rows), .fz (pt (stp rows h w q c)), .fz l0, .fz (tx (t ++ [if stp rows h w q c = q then 48 else 49])), .fz (sg c), .fz (pt (stp rows h w q c))] := by
        refine par_ev rfl (op2_ev rfl (if_ev (t_eqP rfl rfl) (fun _ => rfl) (fun _ => rfl)) ?_)
        have lz : Str.ofString "0" = mkS [48] ∧ Str.ofString "1" = mkS [49] := by decide +kernel
        rw [lz.1, lz.2]
        by_cases hq : stp rows h w q c = q
        · rw [if_pos (decide_eq_true hq), if_pos hq]
          exact dAdd_tx (by simp; omega)
        · rw [if_neg (by simpa using hq), if_neg hq]
          exact dAdd_tx (by simp; omega)
      have st := (seq_nx t1).trans t2
      have e2 : tld rows h w q (c :: r) = (if stp rows h w q c = q then 48 else 49) :: tld rows h w (stp rows h w q c) r := rfl
      rw [e2, show t ++ (if stp rows h w q c = q then 48 else 49) :: tld rows h w (stp rows h w q c) r = (t ++ [if stp rows h w q c = q then 48 else 49]) ++ tld rows h w (stp rows h w q c) r by simp]
      refine (forL_nx ?_).trans e
      exact st
  obtain ⟨s4', s5', e⟩ := key l p [] .no .no (tx l) hd (by simpa using hl)
  exact seq_nx2 i0 (seq_nx2 ((for_ev it).trans e) rfl)
/-! ### all open cells -/
def rowCells (rows : List (List Nat)) (w r : Nat) : List P2 := ((List.range w).filter fun k : Nat => decide (chr rows ((r : Int), (k : Int)) = 46)).map fun k : Nat => ((r : Int), (k : Int))
def cellsOf (rows : List (List Nat)) (h w : Nat) : List P2 := (List.range h).flatMap (rowCells rows w)
theorem cells_ok (R : OkRows rows h w) : F__law_cells [rowsD rows] = ok (.tup ((cellsOf rows h w).map pt)) := by
  refine runF_rt ?_
  have i0 : sSet 1 (mLst []) (startS 4 [rowsD rows]) = .nx [.fz (rowsD rows), .fz (.lst []), .no, .no] := rfl
  have h14 := R.h2
  have w14 := R.w2
  have it : mRng rng1 [(mBI dLen [(mVar 0)])] [.fz (rowsD rows), .fz (.lst []), .no, .no] = ok (rangeD 0 h) := rng_nat (lenR R rfl) (by omega)
  obtain ⟨ρ1, f1, s2, s3, r1⟩ := forL_inv (xs := rangeD 0 h) (i := 0) (ρ := [.fz (rowsD rows), .fz (.lst []), .no, .no])
    (step := fun x ρ => thenF (tgName 2 x ρ).quiet ρ (sSet 1 (mOp2 dAdd (mVar 1) (mLc (mRng rng1 [(mBI dLen [(mOp2 dIx (mVar 0) (mC (.int 0)))])]) [3] (tgName 3) (mT (mOp2 dEq (mOp2 dIx (mOp2 dIx (mVar 0) (mVar 2)) (mVar 3)) (mC (.str ".")))) (mTup [(mVar 2), (mVar 3)])))))
    (R := fun i ρ => ∃ s2 s3, ρ = [.fz (rowsD rows), .fz (.lst (((List.range i).flatMap (rowCells rows w)).map pt)), s2, s3]) (fun j x ρ hx ⟨s2, s3, e⟩ => by
      have hj : j < h := by
        have := (List.getElem?_eq_some_iff.mp hx).1
        simpa [rangeD] using this
      rw [rangeD_map, List.getElem?_map, List.getElem?_range hj] at hx
      have hx' : D.int (0 + (j : Int)) = x := by simpa using hx
      subst e
      rw [← hx', Int.zero_add, Nat.zero_add]
      refine ⟨[.fz (rowsD rows), .fz (.lst (((List.range (j + 1)).flatMap (rowCells rows w)).map pt)), .fz (.int j), s3], .inl ?_, _, _, rfl⟩
      let ρ : Sls := [.fz (rowsD rows), .fz (.lst (((List.range j).flatMap (rowCells rows w)).map pt)), .fz (.int j), s3]
      have lc : mLc (mRng rng1 [(mBI dLen [(mOp2 dIx (mVar 0) (mC (.int 0)))])]) [3] (tgName 3) (mT (mOp2 dEq (mOp2 dIx (mOp2 dIx (mVar 0) (mVar 2)) (mVar 3)) (mC (.str ".")))) (mTup [(mVar 2), (mVar 3)]) ρ = ok (.lst ((rowCells rows w j).map pt)) := by
        unfold rowCells
        rw [List.map_map]
        refine lc_ev (as := List.range w) (emb := fun k : Nat => D.int (k : Int)) (p := fun k : Nat => decide (chr rows ((j : Int), (k : Int)) = 46)) (g := pt ∘ fun k : Nat => ((j : Int), (k : Int))) ((rng_nat (row0 R rfl) (by omega)).trans (by rw [rangeD0])) fun k hk => ⟨(ρ.set 3 .no).set 3 (.fz (.int (k : Int))), rfl, ?_, fun _ => rfl⟩
        have hk' := List.mem_range.mp hk
        exact t_ev (sign_at R (p := ((j : Int), (k : Int))) (Int.natCast_nonneg j) (by show (j : Int) < h; omega) (Int.natCast_nonneg k) (by show (k : Int) < w; omega) rfl rfl rfl)
      have ln : ∀ n, ((List.range n).flatMap (rowCells rows w)).length ≤ n * w := by
        intro n
        induction n with
        | zero => simp
        | succ n ih =>
          rw [List.range_succ, List.flatMap_append, List.length_append]
          have : (rowCells rows w n).length ≤ w := by
            unfold rowCells
            rw [List.length_map]
            exact Nat.le_trans (List.length_filter_le _ _) (by simp)
          have e : (List.flatMap (rowCells rows w) [n]) = rowCells rows w n := by rw [List.flatMap_cons, List.flatMap_nil, List.append_nil]
          rw [e, Nat.succ_mul]
          omega
      refine (show _ = sSet 1 _ ρ from rfl).trans (set_ev (op2_ev rfl lc ?_))
      have b1 := ln j
      have b2 : j * w ≤ 14 * 14 := Nat.mul_le_mul (by omega) (by omega)
      have b3 : (rowCells rows w j).length ≤ 14 := by
        unfold rowCells
        rw [List.length_map]
        refine Nat.le_trans (List.length_filter_le _ _) (by simp; omega)
      show (if _ + _ ≤ sizeLine then some (D.lst (_ ++ _)) else none) = _
      rw [if_pos (by rw [List.length_map, List.length_map]; have := size1000; omega), ← List.map_append, List.range_succ, List.flatMap_append]
      simp) ⟨.no, .no, rfl⟩
  have hn : (rangeD 0 h).length = h := by simp [rangeD]
  rw [hn, Nat.zero_add] at r1
  refine seq_nx2 i0 (seq_nx2 ((for_ev it).trans f1) ?_)
  rw [r1]
  exact ret_ev (bi1 rfl rfl)
theorem cells_open {p : P2} (hp : p ∈ cellsOf rows h w) : opn rows h w p = true := by
  unfold cellsOf at hp
  obtain ⟨r, hr, hp⟩ := List.mem_flatMap.mp hp
  unfold rowCells at hp
  obtain ⟨k, hk, rfl⟩ := List.mem_map.mp hp
  obtain ⟨hk1, hk2⟩ := List.mem_filter.mp hk
  have q1 := List.mem_range.mp hr
  have q2 := List.mem_range.mp hk1
  unfold opn
  rw [hk2, Bool.and_true, inB_iff]
  exact ⟨⟨by show (0 : Int) ≤ r; omega, by show (r : Int) < h; omega⟩, by show (0 : Int) ≤ k; omega, by show (k : Int) < w; omega⟩
theorem cells_some (R : OkRows rows h w) {l : List Nat} {r : List (List Nat)} (hr : rows = (46 :: l) :: r) : 0 < (cellsOf rows h w).length := by
  have h1 := R.h1
  have w1 := R.w1
  refine List.length_pos_of_mem (a := ((0 : Int), (0 : Int))) ?_
  unfold cellsOf
  refine List.mem_flatMap.mpr ⟨0, List.mem_range.mpr (by omega), ?_⟩
  unfold rowCells
  refine List.mem_map.mpr ⟨0, List.mem_filter.mpr ⟨List.mem_range.mpr (by omega), ?_⟩, rfl⟩
  rw [hr]
  rfl
end K60

namespace K60
open PySem L2 PP
open PP.Res (ok exc bad)
variable {rows : List (List Nat)} {h w : Nat}
/-! ### ways and their pieces -/
theorem run_app (p : P2) (a b : List Nat) : run rows h w p (a ++ b) = run rows h w (run rows h w p a) b := List.foldl_append
theorem tld_app : ∀ (a b : List Nat) (p : P2), tld rows h w p (a ++ b) = tld rows h w p a ++ tld rows h w (run rows h w p a) b
  | [], _, _ => rfl
  | c :: a, b, p => congrArg (_ :: ·) (tld_app a b (stp rows h w p c))
theorem stp_open {p : P2} (hp : opn rows h w p = true) (c : Nat) : opn rows h w (stp rows h w p c) = true := by
  unfold stp
  split
  · assumption
  · exact hp
theorem run_open : ∀ (l : List Nat) {p : P2}, opn rows h w p = true → opn rows h w (run rows h w p l) = true
  | [], _, hp => hp
  | c :: l, _, hp => run_open l (stp_open hp c)
def keptF : List Nat → List Nat → List Nat
  | c :: l, t :: ts => if t = 49 then c :: keptF l ts else keptF l ts
  | _, _ => []
theorem kept_range : ∀ (l t : List Nat), l.length = t.length → ((List.range l.length).filter fun n : Nat => decide (t.getD n 0 = 49)).map (fun n : Nat => l.getD n 0) = keptF l t
  | [], [], _ => rfl
  | [], _ :: _, e => by simp at e
  | _ :: _, [], e => by simp at e
  | c :: l, x :: t, e => by
    have ih := kept_range l t (by simpa using e)
    rw [List.length_cons, List.range_succ_eq_map, List.filter_cons]
    have e2 : (((List.range l.length).map Nat.succ).filter fun n : Nat => decide ((x :: t).getD n 0 = 49)) = ((List.range l.length).filter fun n : Nat => decide (t.getD n 0 = 49)).map Nat.succ := by
      rw [List.filter_map]
      rfl
    rw [e2]
    show _ = if x = 49 then c :: keptF l t else keptF l t
    by_cases hx : x = 49
    · rw [if_pos (by simp [hx]), if_pos hx, List.map_cons, List.map_map]
      exact congrArg (c :: ·) ih
    · rw [if_neg (by simp [hx]), if_neg hx, List.map_map]
      exact ih
def Good (rows : List (List Nat)) (h w : Nat) : P2 → List Nat → Prop
  | _, [] => True
  | p, c :: l => stp rows h w p c ≠ p ∧ Good rows h w (stp rows h w p c) l
theorem kept_ok : ∀ (l : List Nat) (p : P2), Good rows h w p (keptF l (tld rows h w p l)) ∧ run rows h w p (keptF l (tld rows h w p l)) = run rows h w p l
  | [], p => ⟨trivial, rfl⟩
  | c :: l, p => by
    obtain ⟨g, r⟩ := kept_ok l (stp rows h w p c)
    show Good rows h w p (if (if stp rows h w p c = p then 48 else 49) = 49 then c :: keptF l _ else keptF l _) ∧ run rows h w p (if (if stp rows h w p c = p then 48 else 49) = 49 then c :: keptF l _ else keptF l _) = run rows h w (stp rows h w p c) l
    by_cases q : stp rows h w p c = p
    · rw [if_pos q, if_neg (by decide)]
      rw [q] at g r ⊢
      exact ⟨g, r⟩
    · rw [if_neg q, if_pos rfl]
      exact ⟨⟨q, g⟩, r⟩
theorem good_app : ∀ (a b : List Nat) (p : P2), Good rows h w p a → Good rows h w (run rows h w p a) b → Good rows h w p (a ++ b)
  | [], _, _, _, g => g
  | c :: a, b, p, g1, g2 => ⟨g1.1, good_app a b _ g1.2 g2⟩
theorem good_tld : ∀ (l : List Nat) (p : P2), Good rows h w p l → 48 ∉ tld rows h w p l
  | [], _, _ => by simp [tld]
  | c :: l, p, g => by
    have := good_tld l _ g.2
    unfold tld
    rw [if_neg g.1]
    simp [this]
def trn (c : Nat) : Nat := if c = 100 then 117 else if c = 117 then 100 else if c = 108 then 114 else 108
theorem nxt_trn (p : P2) {c : Nat} (hc : isDir c = true) : nxt (nxt p c) (trn c) = p ∧ isDir (trn c) = true ∧ nxt p c ≠ p := by
  obtain ⟨a, b⟩ := p
  unfold isDir at hc
  simp only [Bool.or_eq_true, beq_iff_eq] at hc
  rcases hc with rfl | rfl | rfl | rfl <;> refine ⟨?_, by decide, ?_⟩ <;> simp [nxt, dlt, trn] <;> omega
theorem back_ok : ∀ (l : List Nat) (p : P2), opn rows h w p = true → l.all isDir = true → Good rows h w p l → run rows h w (run rows h w p l) (l.reverse.map trn) = p ∧ Good rows h w (run rows h w p l) (l.reverse.map trn)
  | [], _, _, _, _ => ⟨rfl, trivial⟩
  | c :: l, p, hp, hd, g => by
    rw [List.all_cons, Bool.and_eq_true] at hd
    obtain ⟨n1, n2, n3⟩ := nxt_trn p hd.1
    have hs : stp rows h w p c = nxt p c := by
      have := g.1
      unfold stp at this ⊢
      split
      · rfl
      · rename_i z; rw [if_neg z] at this; exact absurd rfl this
    obtain ⟨i1, i2⟩ := back_ok l (stp rows h w p c) (stp_open hp c) hd.2 g.2
    have hb : stp rows h w (stp rows h w p c) (trn c) = p := by
      rw [hs]
      unfold stp
      rw [n1, if_pos hp]
    have e : (c :: l).reverse.map trn = l.reverse.map trn ++ [trn c] := by simp
    rw [e]
    have er : run rows h w p (c :: l) = run rows h w (stp rows h w p c) l := rfl
    rw [er]
    refine ⟨by rw [run_app, i1]; exact hb, good_app _ _ _ i2 ?_⟩
    rw [i1]
    exact ⟨by rw [hb, hs]; exact fun z => n3 z.symm, trivial⟩
theorem keptF_dir : ∀ (l t : List Nat), l.all isDir = true → (keptF l t).all isDir = true
  | [], t, _ => by cases t <;> rfl
  | c :: l, [], _ => rfl
  | c :: l, x :: t, hd => by
    rw [List.all_cons, Bool.and_eq_true] at hd
    have ih := keptF_dir l t hd.2
    show (if x = 49 then c :: keptF l t else keptF l t).all isDir = true
    split
    · rw [List.all_cons, hd.1, ih]; rfl
    · exact ih
theorem keptF_len : ∀ (l t : List Nat), (keptF l t).length ≤ l.length
  | [], t => by cases t <;> simp [keptF]
  | c :: l, [] => by simp [keptF]
  | c :: l, x :: t => by
    have ih := keptF_len l t
    show (if x = 49 then c :: keptF l t else keptF l t).length ≤ _
    split
    · simp; exact ih
    · simp; omega
theorem trn_all {l : List Nat} (hd : l.all isDir = true) : (l.reverse.map trn).all isDir = true := by
  rw [List.all_eq_true] at hd ⊢
  intro x hx
  obtain ⟨c, hc, rfl⟩ := List.mem_map.mp hx
  exact (nxt_trn (0, 0) (hd c (List.mem_reverse.mp hc))).2.1
/-! ### the two looks -/
theorem gone_ok (R : OkRows rows h w) {p : P2} (hp : opn rows h w p = true) {l : List Nat} (hl : l.length ≤ 1000) (hd : l.all isDir = true) : F_gone [mz rows h w, pt p, tx l] = ok (pt (run rows h w p l)) := by
  have e := gone_ev (b := true) (b2 := true) (by rw [is_open_pt R p, hp]) (fun _ => by rw [is_word_tx hl, hd])
  exact e.trans (led_ok R p hl hd)
theorem report_ok (R : OkRows rows h w) {p : P2} (hp : opn rows h w p = true) {l : List Nat} (hl : l.length ≤ 1000) (hd : l.all isDir = true) : F_report [mz rows h w, pt p, tx l] = ok (tx (tld rows h w p l)) := by
  have e := report_ev (b := true) (b2 := true) (by rw [is_open_pt R p, hp]) (fun _ => by rw [is_word_tx hl, hd])
  exact e.trans (told_ok R p hl hd)
/-! ### errors -/
theorem err_ok {m c v : D} {i : Int} {z r : Str} (hz : z = "BadCell" ∧ r = "cell" ∨ z = "BadWord" ∧ r = "word") (h1 : F_gone [m, c, v] = exc z) (h2 : F_report [m, c, v] = exc z) : F__law_error [.int i, m, c, v] = ok (.str r) := by
  refine runF_rt (seq_rt ?_)
  let ρ : Sls := [.fz (.int i), .fz m, .fz c, .fz v, .no]
  have a : mArgs [(mVar 1), (mVar 2), (mVar 3)] ρ = ok [m, c, v] := rfl
  have e : (sIf (mT (mOp2 dEq (mVar 0) (mC (.int 0)))) (sDrop (mCall F_gone [(mVar 1), (mVar 2), (mVar 3)])) (sDrop (mCall F_report [(mVar 1), (mVar 2), (mVar 3)]))) ρ = .exc z ρ := by
    have t : mT (mOp2 dEq (mVar 0) (mC (.int 0))) ρ = ok (decide (i = 0)) := t_eqI rfl rfl
    by_cases hi : i = 0
    · rw [decide_eq_true hi] at t
      exact (if_t t).trans (drop_exc (call_ev a h1))
    · rw [decide_eq_false hi] at t
      exact (if_f t).trans (drop_exc (call_ev a h2))
  have hin : z ∈ excs := by
    rcases hz with ⟨rfl, _⟩ | ⟨rfl, _⟩ <;> decide +kernel
  unfold sTry
  rw [show startS 5 [.int i, m, c, v] = ρ from rfl, e]
  simp only []
  rw [if_pos hin]
  rcases hz with ⟨rfl, rfl⟩ | ⟨rfl, rfl⟩
  · unfold hdl
    rw [if_pos (by decide +kernel)]
    show clOut (some 4) (sRet (if sub "BadCell" "BadWord" then mC (.str "mixed") else mC (.str "cell")) (ρ.set 4 .no)) = _
    rw [if_neg (by decide +kernel)]
    rfl
  · unfold hdl
    rw [if_neg (by decide +kernel)]
    unfold hdl
    rw [if_pos (by decide +kernel)]
    show clOut (some 4) (sRet (if sub "BadWord" "BadWord" then mC (.str "word") else mC (.str "other")) (ρ.set 4 .no)) = _
    rw [if_pos (by decide +kernel)]
    rfl
theorem err_cell {m v u : D} (i : Int) (hv : F_is_cell [m, v] = ok (.bl false)) : F__law_error [.int i, m, v, u] = ok (.str "cell") := by
  have o := is_open_no hv
  exact err_ok (.inl ⟨rfl, rfl⟩) (gone_ev (b := false) (b2 := false) o fun z => nomatch z) (report_ev (b := false) (b2 := false) o fun z => nomatch z)
theorem err_word (R : OkRows rows h w) {p : P2} (hp : opn rows h w p = true) {v : D} (i : Int) (hv : F_is_word [v] = ok (.bl false)) : F__law_error [.int i, mz rows h w, pt p, v] = ok (.str "word") := by
  have o : F_is_open [mz rows h w, pt p] = ok (.bl true) := by rw [is_open_pt R p, hp]
  exact err_ok (.inr ⟨rfl, rfl⟩) (gone_ev (b := true) (b2 := false) o fun z => hv) (report_ev (b := true) (b2 := false) o fun z => hv)
theorem not_cell1 {m v : D} (h : dIsi [v, .ty "tuple"] = some (.bl false)) : F_is_cell [m, v] = ok (.bl false) := by
  refine runF_rt ?_
  have c : (mOr (mNot (mT (mBI dIsi [(mVar 1), (mC (.ty "tuple"))]))) (mT (mOp2 dNe (mBI dLen [(mVar 1)]) (mC (.int 2))))) [.fz m, .fz v] = ok true :=
    (or_ev (a := true) (b := true) (not_ev (a := false) (t_ev (bi_ev (args_ev rfl (args_ev rfl args0)) h))) fun z => nomatch z).trans rfl
  exact seq_rt ((if_t c).trans (ret_ev rfl))
theorem not_cell2 {m : D} {xs : List D} (h : xs.length ≠ 2) : F_is_cell [m, .tup xs] = ok (.bl false) := by
  refine runF_rt ?_
  have c : (mOr (mNot (mT (mBI dIsi [(mVar 1), (mC (.ty "tuple"))]))) (mT (mOp2 dNe (mBI dLen [(mVar 1)]) (mC (.int 2))))) [.fz m, .fz (.tup xs)] = ok true := by
    refine (or_ev (a := false) (b := true) (not_ev (a := true) (t_ev (bi_ev (args_ev rfl (args_ev rfl args0)) rfl))) fun _ => ?_).trans rfl
    refine (t_neI (i_lenT rfl) rfl).trans ?_
    rw [decide_eq_false (by omega)]
    rfl
  exact seq_rt ((if_t c).trans (ret_ev rfl))
theorem not_cell3 (rows : List (List Nat)) (h w : Nat) (b : Bool) (i : Int) : F_is_cell [mz rows h w, .tup [.bl b, .int i]] = ok (.bl false) := by
  refine runF_rt ?_
  have c : (mOr (mNot (mT (mBI dIsi [(mVar 1), (mC (.ty "tuple"))]))) (mT (mOp2 dNe (mBI dLen [(mVar 1)]) (mC (.int 2))))) [.fz (mz rows h w), .fz (.tup [.bl b, .int i])] = ok false :=
    (or_ev (a := false) (not_ev (a := true) (t_ev (bi_ev (args_ev rfl (args_ev rfl args0)) rfl))) fun _ => t_ev (op2_ev (bi1 rfl rfl) rfl rfl)).trans rfl
  exact seq_nx2 (if_nx c) (ret_ev ((andV_ev (a := false) (b := false) (call_ev (args_ev (op2_ev rfl rfl rfl) (args_ev rfl (args_ev (i_sub (fld_height (rows := rows) (h := h) (w := w) rfl) rfl) args0))) (whole_bl b 0 _)) fun z => nomatch z).trans rfl))
end K60

namespace K60
open PySem L2 PP
open PP.Res (ok exc bad)
theorem ex_seq {s t : Sls → Fl} {ρ ρ1 : Sls} {R : Sls → Prop} (e : s ρ = .nx ρ1) (k : ∃ ρ', t ρ1 = .nx ρ' ∧ R ρ') : ∃ ρ', sSeq s t ρ = .nx ρ' ∧ R ρ' := by
  obtain ⟨ρ', e2, r⟩ := k
  exact ⟨ρ', seq_nx2 e e2, r⟩
theorem ex_seq2 {s t : Sls → Fl} {ρ : Sls} {R1 R : Sls → Prop} (e : ∃ ρ1, s ρ = .nx ρ1 ∧ R1 ρ1) (k : ∀ ρ1, R1 ρ1 → ∃ ρ', t ρ1 = .nx ρ' ∧ R ρ') : ∃ ρ', sSeq s t ρ = .nx ρ' ∧ R ρ' := by
  obtain ⟨ρ1, e1, r1⟩ := e
  exact ex_seq e1 (k ρ1 r1)
theorem for_all {it : Sls → Res (List D)} {i : Nat} {body : Sls → Fl} {ρ : Sls} {xs : List D} {R : Sls → Prop} (e : it ρ = ok xs) (k : ∀ x ∈ xs, ∀ ρ, R ρ → ∃ ρ', body (ρ.set i (.fz x)) = .nx ρ' ∧ R ρ') (h0 : R ρ) : ∃ ρ', sFor it (tgName i) body ρ = .nx ρ' ∧ R ρ' := by
  obtain ⟨ρ', e2, r⟩ := forL_all (step := fun x ρ => thenF (tgName i x ρ).quiet ρ body) (R := R) (xs := xs) (ρ := ρ) (fun x hx ρ hr => by
    obtain ⟨ρ', a, b⟩ := k x hx ρ hr
    exact ⟨ρ', .inl a, b⟩) h0
  exact ⟨ρ', (for_ev e).trans e2, r⟩
def wch (d : Int) (n : Nat) : Nat := [100, 108, 114, 117].getD (d / ((n : Int) + 1) % 4).toNat 0
theorem wch_dir (d : Int) (n : Nat) : isDir (wch d n) = true := by
  unfold wch
  have h1 := Int.emod_nonneg (d / ((n : Int) + 1)) (show (4 : Int) ≠ 0 by decide)
  have h2 := Int.emod_lt_of_pos (d / ((n : Int) + 1)) (show (0 : Int) < 4 by decide)
  generalize (d / ((n : Int) + 1) % 4) = z at h1 h2
  obtain ⟨m, rfl⟩ := Int.eq_ofNat_of_zero_le h1
  have hm : m < 4 := by omega
  show isDir ([100, 108, 114, 117].getD m 0) = true
  match m, hm with
  | 0, _ => rfl
  | 1, _ => rfl
  | 2, _ => rfl
  | 3, _ => rfl
def wordL (d : Int) : List Nat := (List.range (d % 31).toNat).map (wch d)
theorem wordL_dir (d : Int) : (wordL d).all isDir = true := List.all_eq_true.mpr fun x hx => by
  obtain ⟨n, _, rfl⟩ := List.mem_map.mp hx
  exact wch_dir d n
theorem wordL_len (d : Int) : (wordL d).length < 31 := by
  unfold wordL
  rw [List.length_map, List.length_range]
  have := Int.emod_lt_of_pos d (show (0 : Int) < 31 by decide)
  omega
theorem lit_dlru : Str.ofString "dlru" = mkS [100, 108, 114, 117] := by decide +kernel
theorem lit_01 : Str.ofString "0" = mkS [48] ∧ Str.ofString "1" = mkS [49] := by decide +kernel
theorem dIn_tx (c : Nat) (l : List Nat) : dIn (tx [c]) (tx l) = some (.bl (decide (c ∈ l))) := by
  show some (D.bl (decide (c ∈ (mkS l).cps.toList))) = _
  rw [mkS_cps]
theorem dRevS_tx {l : List Nat} (h : l.length ≤ 1000000) : dRevS (tx l) = some (tx l.reverse) := by
  show (if (mkS l).length ≤ sizeLine then some (D.str (revS (mkS l))) else none) = _
  rw [mkS_length, if_pos (by have := size1000; omega)]
  unfold revS
  rw [mkS_cps]
  rfl
theorem dispb {c : Nat} (hc : isDir c = true) {ρ : Sls} {i : Nat} (e : mVar i ρ = ok (sg c)) : mDispGet [("d", (mC (.str "u"))), ("u", (mC (.str "d"))), ("l", (mC (.str "r"))), ("r", (mC (.str "l")))] (mVar i) ρ = ok (tx [trn c]) := by
  unfold mDispGet
  rw [show mPairs [("d", (mC (.str "u"))), ("u", (mC (.str "d"))), ("l", (mC (.str "r"))), ("r", (mC (.str "l")))] ρ = ok ([("d", D.str "u"), ("u", D.str "d"), ("l", D.str "r"), ("r", D.str "l")] : List (Str × D)) from rfl, Res.ok_bind, e]
  unfold isDir at hc
  simp only [Bool.or_eq_true, beq_iff_eq] at hc
  rcases hc with rfl | rfl | rfl | rfl <;> rfl
section
variable {rows : List (List Nat)} {h w : Nat}
/-- the walk's state: what stays, what comes and goes -/
def Inv (a0 a1 a2 a3 a4 a5 : D) (ρ : Sls) : Prop := ∃ s6 s7 s8 s9 s10 s11 s12 s13 s14 s15 s16 s17, ρ = [.fz a0, .fz a1, .fz a2, .fz a3, .fz a4, .fz a5, s6, s7, s8, s9, s10, s11, s12, s13, s14, s15, s16, s17]
theorem draw_at {ds : List Int} (hd : Drawn ds) {f : Sls → Res D} {g : Sls → Res D} {ρ : Sls} {i : Nat} (e : f ρ = ok (.lst (ds.map .int))) (e2 : g ρ = ok (.int (i : Int))) (hi : i < ds.length) : ∃ d, mBI dInt [mOp2 dIx f g] ρ = ok (.int d) ∧ 0 ≤ d ∧ d < 65521 := by
  refine ⟨ds[i], i_int (op2_ev e e2 ?_), hd _ (List.getElem_mem hi)⟩
  rw [dIx_lst (Int.natCast_nonneg i), List.getElem?_map]
  show Option.map D.int ds[i]? = _
  rw [List.getElem?_eq_getElem hi]
  rfl
theorem inner (R : OkRows rows h w) {l0 : List Nat} {r0 : List (List Nat)} (h00 : rows = (46 :: l0) :: r0) {ds : List Int} (hd : Drawn ds) (hl : ds.length = 60) (sc tr : D) (k : Nat) (hk : k < 6) (ρ : Sls) (hρ : Inv sc (.lst (ds.map .int)) tr (rowsD rows) (mz rows h w) (.tup ((cellsOf rows h w).map pt)) ρ) :
    ∃ ρ', (sSeq (sAsg (tgTup 2 (tgsCons (tgName 7) (tgsCons (tgName 8) tgsNil))) (mTup [(mOp2 dIx (mVar 5) (mOp2 dMod (mBI dInt [(mOp2 dIx (mVar 1) (mOp2 dAdd (mC (.int 34)) (mVar 6)))]) (mBI dLen [(mVar 5)]))), (mBI dInt [(mOp2 dIx (mVar 1) (mOp2 dAdd (mC (.int 40)) (mVar 6)))])]))
    (sSeq (sSet 9 (mM1 dJoin (mC (.str "")) (mLc (mRng rng1 [(mOp2 dMod (mVar 8) (mC (.int 31)))]) [16] (tgName 16) mYes (mOp2 dIx (mC (.str "dlru")) (mOp2 dMod (mOp2 dDiv (mVar 8) (mOp2 dAdd (mVar 16) (mC (.int 1)))) (mC (.int 4)))))))
    (sSeq (sAsg (tgTup 2 (tgsCons (tgName 10) (tgsCons (tgName 11) tgsNil))) (mCall F__law_led [(mVar 3), (mVar 7), (mVar 9)]))
    (sSeq (sIf (mOr (mT (mOp2 dNe (mCall F_gone [(mVar 4), (mVar 7), (mVar 9)]) (mVar 10))) (mT (mOp2 dNe (mCall F_report [(mVar 4), (mVar 7), (mVar 9)]) (mVar 11)))) (sRet (mC (.bl false))) sNx)
    (sSeq (sSet 12 (mOp2 dMod (mOp2 dDiv (mVar 8) (mC (.int 31))) (mOp2 dAdd (mBI dLen [(mVar 9)]) (mC (.int 1)))))
    (sSeq (sIf (mOr (mT (mOp2 dNe (mCall F_gone [(mVar 4), (mCall F_gone [(mVar 4), (mVar 7), (mSl dSl (mVar 9) mNoPart (mPart (mVar 12)))]), (mSl dSl (mVar 9) (mPart (mVar 12)) mNoPart)]) (mVar 10))) (mT (mOp2 dNe (mOp2 dAdd (mCall F_report [(mVar 4), (mVar 7), (mSl dSl (mVar 9) mNoPart (mPart (mVar 12)))]) (mCall F_report [(mVar 4), (mCall F_gone [(mVar 4), (mVar 7), (mSl dSl (mVar 9) mNoPart (mPart (mVar 12)))]), (mSl dSl (mVar 9) (mPart (mVar 12)) mNoPart)])) (mVar 11)))) (sRet (mC (.bl false))) sNx)
    (sSeq (sSet 13 (mM1 dJoin (mC (.str "")) (mLc (mRng rng1 [(mBI dLen [(mVar 9)])]) [16] (tgName 16) (mT (mOp2 dEq (mOp2 dIx (mVar 11) (mVar 16)) (mC (.str "1")))) (mOp2 dIx (mVar 9) (mVar 16)))))
    (sSeq (sSet 14 (mM1 dJoin (mC (.str "")) (mLc (mIt (mOp1 dRevS (mVar 13))) [17] (tgName 17) mYes (mDispGet [("d", (mC (.str "u"))), ("u", (mC (.str "d"))), ("l", (mC (.str "r"))), ("r", (mC (.str "l")))] (mVar 17)))))
    (sIf (mOr (mT (mOp2 dNe (mCall F_gone [(mVar 4), (mVar 7), (mVar 13)]) (mVar 10))) (mOr (mT (mOp2 dNe (mCall F_gone [(mVar 4), (mVar 10), (mVar 14)]) (mVar 7))) (mT (mOp2 dIn (mC (.str "0")) (mCall F_report [(mVar 4), (mVar 10), (mVar 14)]))))) (sRet (mC (.bl false))) sNx)))))))))
      (ρ.set 6 (.fz (.int (k : Int)))) = .nx ρ' ∧ Inv sc (.lst (ds.map .int)) tr (rowsD rows) (mz rows h w) (.tup ((cellsOf rows h w).map pt)) ρ' := by
  obtain ⟨s6, s7, s8, s9, s10, s11, s12, s13, s14, s15, s16, s17, rfl⟩ := hρ
  let A : D := .lst (ds.map .int)
  let M : D := mz rows h w
  let C : D := .tup ((cellsOf rows h w).map pt)
  let X : D := rowsD rows
  have hlen := cells_some R h00
  generalize hcl : cellsOf rows h w = cl at hlen
  let ρ0 : Sls := [.fz sc, .fz A, .fz tr, .fz X, .fz M, .fz (.tup (cl.map pt)), .fz (.int (k : Int)), s7, s8, s9, s10, s11, s12, s13, s14, s15, s16, s17]
  obtain ⟨d1, e1, p1, _⟩ := draw_at hd (f := mVar 1) (g := mOp2 dAdd (mC (.int 34)) (mVar 6)) (ρ := ρ0) (i := 34 + k) rfl (by rw [Int.natCast_add]; exact i_add rfl rfl) (by omega)
  obtain ⟨d, e2, p2, p3⟩ := draw_at hd (f := mVar 1) (g := mOp2 dAdd (mC (.int 40)) (mVar 6)) (ρ := ρ0) (i := 40 + k) rfl (by rw [Int.natCast_add]; exact i_add rfl rfl) (by omega)
  have hcl0 : (0 : Int) < (cl.length : Int) := by omega
  have m0 := Int.emod_nonneg d1 (show (cl.length : Int) ≠ 0 by omega)
  have m1 := Int.emod_lt_of_pos d1 hcl0
  have hix : (d1 % (cl.length : Int)).toNat < cl.length := by omega
  let p : P2 := cl[(d1 % (cl.length : Int)).toNat]
  have hp : opn rows h w p = true := cells_open (hcl ▸ List.getElem_mem hix)
  have ecell : mOp2 dIx (mVar 5) (mOp2 dMod (mBI dInt [(mOp2 dIx (mVar 1) (mOp2 dAdd (mC (.int 34)) (mVar 6)))]) (mBI dLen [(mVar 5)])) ρ0 = ok (pt p) := by
    refine op2_ev rfl (i_mod e1 (i_lenT (l := cl.map pt) rfl) (by rw [List.length_map]; omega)) ?_
    rw [List.length_map, dIx_tup m0, List.getElem?_map, List.getElem?_eq_getElem hix]
    rfl
  let ρ1 : Sls := [.fz sc, .fz A, .fz tr, .fz X, .fz M, .fz (.tup (cl.map pt)), .fz (.int (k : Int)), .fz (pt p), .fz (.int d), s9, s10, s11, s12, s13, s14, s15, s16, s17]
  refine ex_seq (ρ1 := ρ1) (asg2_ev (tup_ev (args_ev ecell (args_ev e2 args0)))) ?_
  have wl := wordL_len d
  have wd := wordL_dir d
  have eword : mM1 dJoin (mC (.str "")) (mLc (mRng rng1 [(mOp2 dMod (mVar 8) (mC (.int 31)))]) [16] (tgName 16) mYes (mOp2 dIx (mC (.str "dlru")) (mOp2 dMod (mOp2 dDiv (mVar 8) (mOp2 dAdd (mVar 16) (mC (.int 1)))) (mC (.int 4))))) ρ1 = ok (tx (wordL d)) := by
    have h31 := Int.emod_lt_of_pos d (show (0 : Int) < 31 by decide)
    have h30 := Int.emod_nonneg d (show (31 : Int) ≠ 0 by decide)
    refine m1_ev (v := .lst ((List.range (d % 31).toNat).map fun n => tx [wch d n])) rfl (lc_ev0 (as := List.range (d % 31).toNat) (emb := fun n : Nat => D.int (n : Int)) ((rng_nat (n := (d % 31).toNat) ?_ (by omega)).trans (by rw [rangeD0])) fun n hn => ⟨_, rfl, ?_⟩) ?_
    · rw [Int.toNat_of_nonneg h30]
      exact i_mod rfl rfl
    · have hn' := List.mem_range.mp hn
      have z1 := Int.emod_nonneg (d / ((n : Int) + 1)) (show (4 : Int) ≠ 0 by decide)
      have z2 := Int.emod_lt_of_pos (d / ((n : Int) + 1)) (show (0 : Int) < 4 by decide)
      refine op2_ev rfl (i_mod (i_div rfl (i_add rfl rfl) (by omega) (by omega)) rfl) ?_
      rw [lit_dlru, dIx_tx (by simp) z1]
      unfold wch
      generalize d / ((n : Int) + 1) % 4 = z at z1 z2
      obtain ⟨m, rfl⟩ := Int.eq_ofNat_of_zero_le z1
      have hm : m < 4 := by omega
      match m, hm with
      | 0, _ => rfl
      | 1, _ => rfl
      | 2, _ => rfl
      | 3, _ => rfl
    · rw [lit_nil]
      exact dJoin_ones (wch d) _ (by rw [List.length_range]; omega)
  generalize hwl : wordL d = l at wl wd eword
  refine ex_seq (set_ev eword) ?_
  let q := run rows h w p l
  let t := tld rows h w p l
  have tl : t.length = l.length := tld_length rows h w l p
  have hq : opn rows h w q = true := run_open l hp
  refine ex_seq (asg2_ev (call_ev (args_ev rfl (args_ev rfl (args_ev rfl args0))) (lled_ok R p (l := l) (by omega) wd))) ?_
  refine ex_seq (if_nx ((or_ev (a := false) (b := false) ((t_neP (a := q) (b := q) (call_ev (args_ev rfl (args_ev rfl (args_ev rfl args0))) (gone_ok R hp (l := l) (by omega) wd)) rfl).trans (by rw [decide_eq_true rfl]; rfl)) fun _ => ((t_neS (a := t) (b := t) (call_ev (args_ev rfl (args_ev rfl (args_ev rfl args0))) (report_ok R hp (l := l) (by omega) wd)) rfl).trans (by rw [decide_eq_true rfl]; rfl))).trans rfl)) ?_
  have a0 := Int.emod_nonneg (d / 31) (show ((l.length : Int) + 1) ≠ 0 by omega)
  refine ex_seq (set_ev (i_mod (i_div rfl rfl) (i_add (i_lenS (l := l) rfl (by omega)) rfl) (by omega))) ?_
  generalize d / 31 % ((l.length : Int) + 1) = at' at a0
  let u := l.take at'.toNat
  let v := l.drop at'.toNat
  have huv : u ++ v = l := List.take_append_drop _ _
  have hul : u.length ≤ l.length := by show (l.take _).length ≤ _; rw [List.length_take]; omega
  have hvl : v.length ≤ l.length := by show (l.drop _).length ≤ _; rw [List.length_drop]; omega
  have hud : u.all isDir = true := List.all_eq_true.mpr fun x hx => List.all_eq_true.mp wd x (List.mem_of_mem_take hx)
  have hvd : v.all isDir = true := List.all_eq_true.mpr fun x hx => List.all_eq_true.mp wd x (List.mem_of_mem_drop hx)
  let p' := run rows h w p u
  have hp' : opn rows h w p' = true := run_open u hp
  have eq1 : run rows h w p' v = q := by show run rows h w (run rows h w p u) v = run rows h w p l; rw [← run_app, huv]
  have et1 : tld rows h w p u ++ tld rows h w p' v = t := by show _ = tld rows h w p l; rw [← huv, tld_app]
  let ρ5 : Sls := [.fz sc, .fz A, .fz tr, .fz X, .fz M, .fz (.tup (cl.map pt)), .fz (.int (k : Int)), .fz (pt p), .fz (.int d), .fz (tx l), .fz (pt q), .fz (tx t), .fz (.int at'), s13, s14, s15, s16, s17]
  have su : mSl dSl (mVar 9) mNoPart (mPart (mVar 12)) ρ5 = ok (tx u) := sl_to rfl rfl (dSl_txTo (by omega) a0)
  have sv : mSl dSl (mVar 9) (mPart (mVar 12)) mNoPart ρ5 = ok (tx v) := sl_from rfl rfl (dSl_txFrom (by omega) a0)
  have g1 : mCall F_gone [(mVar 4), (mVar 7), (mSl dSl (mVar 9) mNoPart (mPart (mVar 12)))] ρ5 = ok (pt p') := call_ev (args_ev rfl (args_ev rfl (args_ev su args0))) (gone_ok R hp (by omega) hud)
  have g2 : mCall F_gone [(mVar 4), (mCall F_gone [(mVar 4), (mVar 7), (mSl dSl (mVar 9) mNoPart (mPart (mVar 12)))]), (mSl dSl (mVar 9) (mPart (mVar 12)) mNoPart)] ρ5 = ok (pt q) := by
    rw [← eq1]
    exact call_ev (args_ev rfl (args_ev g1 (args_ev sv args0))) (gone_ok R hp' (by omega) hvd)
  have g3 : mCall F_report [(mVar 4), (mVar 7), (mSl dSl (mVar 9) mNoPart (mPart (mVar 12)))] ρ5 = ok (tx (tld rows h w p u)) := call_ev (args_ev rfl (args_ev rfl (args_ev su args0))) (report_ok R hp (by omega) hud)
  have g4 : mCall F_report [(mVar 4), (mCall F_gone [(mVar 4), (mVar 7), (mSl dSl (mVar 9) mNoPart (mPart (mVar 12)))]), (mSl dSl (mVar 9) (mPart (mVar 12)) mNoPart)] ρ5 = ok (tx (tld rows h w p' v)) := call_ev (args_ev rfl (args_ev g1 (args_ev sv args0))) (report_ok R hp' (by omega) hvd)
  have g5 := op2_ev g3 g4 (dAdd_tx (by rw [tld_length, tld_length]; omega))
  rw [et1] at g5
  refine ex_seq (ρ1 := ρ5) (if_nx ((or_ev (a := false) (b := false) ((t_neP (a := q) (b := q) g2 rfl).trans (by rw [decide_eq_true rfl]; rfl)) fun _ => ((t_neS (a := t) (b := t) g5 rfl).trans (by rw [decide_eq_true rfl]; rfl))).trans rfl)) ?_
  let kp := keptF l t
  obtain ⟨kg, kr⟩ := kept_ok (rows := rows) (h := h) (w := w) l p
  have kd : kp.all isDir = true := keptF_dir l t wd
  have kl : kp.length ≤ l.length := keptF_len l t
  have ek : mM1 dJoin (mC (.str "")) (mLc (mRng rng1 [(mBI dLen [(mVar 9)])]) [16] (tgName 16) (mT (mOp2 dEq (mOp2 dIx (mVar 11) (mVar 16)) (mC (.str "1")))) (mOp2 dIx (mVar 9) (mVar 16))) ρ5 = ok (tx kp) := by
    refine m1_ev (v := .lst (((List.range l.length).filter fun n : Nat => decide (t.getD n 0 = 49)).map fun n : Nat => tx [l.getD n 0])) rfl (lc_ev (as := List.range l.length) (emb := fun n : Nat => D.int (n : Int)) ((rng_nat (n := l.length) (i_lenS (l := l) rfl (by omega)) (by omega)).trans (by rw [rangeD0])) fun n hn => ⟨_, rfl, ?_, fun _ => ?_⟩) ?_
    · have hn' := List.mem_range.mp hn
      refine (t_eqS (a := [t.getD n 0]) (b := [49]) (op2_ev rfl rfl ?_) (by rw [lit_01.2]; rfl)).trans (by simp)
      rw [dIx_tx (by omega) (Int.natCast_nonneg n)]
      show (t[n]?).map sg = _
      rw [List.getD_eq_getElem?_getD, List.getElem?_eq_getElem (by omega)]
      rfl
    · have hn' := List.mem_range.mp hn
      refine op2_ev rfl rfl ?_
      rw [dIx_tx (by omega) (Int.natCast_nonneg n)]
      show (l[n]?).map sg = _
      rw [List.getD_eq_getElem?_getD, List.getElem?_eq_getElem hn']
      rfl
    · rw [lit_nil, dJoin_ones (fun n : Nat => l.getD n 0) _ (Nat.le_trans (List.length_filter_le _ _) (by rw [List.length_range]; omega)), kept_range l t tl.symm]
  refine ex_seq (set_ev ek) ?_
  let bk := kp.reverse.map trn
  have bd : bk.all isDir = true := trn_all kd
  have bl : bk.length ≤ l.length := by show (kp.reverse.map trn).length ≤ _; simp; exact kl
  obtain ⟨br, bg⟩ := back_ok kp p hp kd kg
  have krq : run rows h w p kp = q := kr
  rw [krq] at br bg
  let ρ6 : Sls := [.fz sc, .fz A, .fz tr, .fz X, .fz M, .fz (.tup (cl.map pt)), .fz (.int (k : Int)), .fz (pt p), .fz (.int d), .fz (tx l), .fz (pt q), .fz (tx t), .fz (.int at'), .fz (tx kp), s14, s15, s16, s17]
  have eb : mM1 dJoin (mC (.str "")) (mLc (mIt (mOp1 dRevS (mVar 13))) [17] (tgName 17) mYes (mDispGet [("d", (mC (.str "u"))), ("u", (mC (.str "d"))), ("l", (mC (.str "r"))), ("r", (mC (.str "l")))] (mVar 17))) ρ6 = ok (tx bk) := by
    refine m1_ev (v := .lst (kp.reverse.map fun c => tx [trn c])) rfl (lc_ev0 (as := kp.reverse) (emb := sg) (it_ev (op1_ev rfl (dRevS_tx (l := kp) (by omega))) (items_tx (by simp; omega))) fun c hc => ⟨_, rfl, dispb (List.all_eq_true.mp kd c (List.mem_reverse.mp hc)) rfl⟩) ?_
    rw [lit_nil]
    exact dJoin_ones trn _ (by simp; omega)
  refine ex_seq (ρ1 := ρ6.set 14 (.fz (tx bk))) (set_ev eb) ⟨ρ6.set 14 (.fz (tx bk)), if_nx ((or_ev (a := false) (b := false) ((t_neP (a := q) (b := q) (krq ▸ call_ev (args_ev rfl (args_ev rfl (args_ev rfl args0))) (gone_ok R hp (l := kp) (by omega) kd)) rfl).trans (by rw [decide_eq_true rfl]; rfl)) fun _ => (or_ev (a := false) (b := false) ((t_neP (a := p) (b := p) (br ▸ call_ev (args_ev rfl (args_ev rfl (args_ev rfl args0))) (gone_ok R hq (l := bk) (by omega) bd)) rfl).trans (by rw [decide_eq_true rfl]; rfl)) fun _ => t_ev (op2_ev (b := tx (tld rows h w q bk)) rfl (call_ev (args_ev rfl (args_ev rfl (args_ev rfl args0))) (report_ok R hq (l := bk) (by omega) bd)) ?_)).trans rfl).trans rfl), ?_⟩
  · rw [lit_01.1, dIn_tx, decide_eq_false (good_tld bk q bg)]
  · exact ⟨_, _, _, _, _, _, _, _, _, _, _, _, rfl⟩
end
end K60

namespace K60
open PySem L2 PP
open PP.Res (ok exc bad)
def InvT (a0 a1 : D) (ρ : Sls) : Prop := ∃ s2 s3 s4 s5 s6 s7 s8 s9 s10 s11 s12 s13 s14 s15 s16 s17, ρ = [.fz a0, .fz a1, s2, s3, s4, s5, s6, s7, s8, s9, s10, s11, s12, s13, s14, s15, s16, s17]
theorem dNe_same {f : Sls → Res D} {ρ : Sls} {z : Str} (e : f ρ = ok (.str z)) : mT (mOp2 dNe f (mC (.str z))) ρ = ok false := by
  refine t_ev (op2_ev e rfl ?_)
  show (match (some (D.bl (decide (z = z)))) with | some (.bl k) => some (D.bl (!k)) | _ => none) = _
  rw [decide_eq_true rfl]
  rfl
theorem ex_rt {s t : Sls → Fl} {ρ : Sls} {R : Sls → Prop} {fl : Fl} (e : ∃ ρ1, s ρ = .nx ρ1 ∧ R ρ1) (k : ∀ ρ1, R ρ1 → t ρ1 = fl) : sSeq s t ρ = fl := by
  obtain ⟨ρ1, e1, r1⟩ := e
  exact seq_nx2 e1 (k ρ1 r1)
theorem wrong_word {x : D} (hx : x ∈ [D.non, .int 7, .lst [.str "d"], .str "D", .str "d ", .tup [.str "d"], .bl true]) : F_is_word [x] = ok (.bl false) := by
  simp only [List.mem_cons, List.not_mem_nil, or_false] at hx
  rcases hx with rfl | rfl | rfl | rfl | rfl | rfl | rfl
  · exact is_word_no rfl
  · exact is_word_no rfl
  · exact is_word_no rfl
  · rw [show Str.ofString "D" = mkS [68] by decide +kernel]
    exact (is_word_tx (l := [68]) (by simp)).trans rfl
  · rw [show Str.ofString "d " = mkS [100, 32] by decide +kernel]
    exact (is_word_tx (l := [100, 32]) (by simp)).trans rfl
  · exact is_word_no rfl
  · exact is_word_no rfl
theorem wrong_cell {rows : List (List Nat)} {h w : Nat} (hh : h ≤ 14) {x : D} (hx : x ∈ [D.non, .tup [.int 99, .int 0], .tup [.int 0, .int (-1)], .tup [.int 0], .lst [.int 0, .int 0], .tup [.bl true, .int 0], .tup [.int 0, .int 0, .int 0]]) : F_is_cell [mz rows h w, x] = ok (.bl false) := by
  simp only [List.mem_cons, List.not_mem_nil, or_false] at hx
  rcases hx with rfl | rfl | rfl | rfl | rfl | rfl | rfl
  · exact not_cell1 rfl
  · refine (is_cell_pt rows h w (99, 0)).trans ?_
    congr 2
    rw [Bool.eq_false_iff]
    intro z
    have := inB_iff.mp z
    simp at this
    omega
  · refine (is_cell_pt rows h w (0, -1)).trans ?_
    congr 2
    rw [Bool.eq_false_iff]
    intro z
    have := inB_iff.mp z
    simp at this
  · exact not_cell2 (by simp)
  · exact not_cell1 rfl
  · exact not_cell3 rows h w true 0
  · exact not_cell2 (by simp)
theorem range_mem {n : Nat} {x : D} (hx : x ∈ rangeD 0 n) : ∃ k : Nat, k < n ∧ x = .int (k : Int) := by
  rw [rangeD0] at hx
  obtain ⟨k, hk, rfl⟩ := List.mem_map.mp hx
  exact ⟨k, List.mem_range.mp hk, rfl⟩
theorem last_ok (ρ : Sls) : (mAndV (mOp2 dEq (mCall F_gone [(mMake F_Maze [(mTup [(mC (.str "..."))])]), (mTup [(mC (.int 0)), (mC (.int 2))]), (mC (.str "ll"))]) (mTup [(mC (.int 0)), (mC (.int 0))])) (mOp2 dEq (mCall F_report [(mMake F_Maze [(mTup [(mC (.str "..."))])]), (mTup [(mC (.int 0)), (mC (.int 2))]), (mC (.str "llll"))]) (mC (.str "1100")))) ρ = ok (.bl true) := by
  have R : OkRows [[46, 46, 46]] 1 3 := ⟨rfl, fun l hl => by rw [List.mem_singleton.mp hl]; rfl, fun l hl c hc => by rw [List.mem_singleton.mp hl] at hc; simp at hc; exact .inr hc, by decide, by decide, by decide, by decide⟩
  have hp : opn [[46, 46, 46]] 1 3 (0, 2) = true := by decide
  have l1 : Str.ofString "..." = mkS [46, 46, 46] := by decide +kernel
  have l2 : Str.ofString "ll" = mkS [108, 108] := by decide +kernel
  have l3 : Str.ofString "llll" = mkS [108, 108, 108, 108] := by decide +kernel
  have l4 : Str.ofString "1100" = mkS [49, 49, 48, 48] := by decide +kernel
  rw [l1, l2, l3, l4]
  have em : mMake F_Maze [(mTup [(mC (tx [46, 46, 46]))])] ρ = ok (mz [[46, 46, 46]] 1 3) := make_ev (args_ev (tup_ev (args_ev rfl args0)) args0) (maze_ok R)
  have g := gone_ok R hp (l := [108, 108]) (by decide) (by decide)
  have r := report_ok R hp (l := [108, 108, 108, 108]) (by decide) (by decide)
  rw [show run [[46, 46, 46]] 1 3 (0, 2) [108, 108] = (0, 0) by decide] at g
  rw [show tld [[46, 46, 46]] 1 3 (0, 2) [108, 108, 108, 108] = [49, 49, 48, 48] by decide] at r
  refine (andV_ev (a := true) (b := true) (op2_ev (call_ev (args_ev em (args_ev (tup_ev (args_ev rfl (args_ev rfl args0))) (args_ev rfl args0))) g) (tup_ev (args_ev rfl (args_ev rfl args0))) ?_) fun _ => op2_ev (call_ev (args_ev em (args_ev (tup_ev (args_ev rfl (args_ev rfl args0))) (args_ev rfl args0))) r) rfl ?_).trans rfl
  · exact dEq_pt (0, 0) (0, 0)
  · rw [dEq_tx]; rfl
theorem law_true (ns : List Int) (hn : ns.length ≤ 63) : F_law [.kl (ns.map .int)] = ok (.bl true) := by
  obtain ⟨ds, ed, hl, hd⟩ := draws_ok ns 60 (by decide)
  have ed' : F__law_draws [.kl (ns.map .int), .int 60] = ok (.lst (ds.map .int)) := ed
  refine runF_rt ?_
  unfold b_law
  refine seq_nx2 (set_ev (call_ev (args_ev rfl (args_ev rfl args0)) ed')) ?_
  refine ex_rt (R := InvT (.kl (ns.map .int)) (.lst (ds.map .int))) (for_all (R := InvT (.kl (ns.map .int)) (.lst (ds.map .int))) (xs := rangeD 0 3) rfl (fun x hx ρ hr => ?_) ⟨_, _, _, _, _, _, _, _, _, _, _, _, _, _, _, _, rfl⟩) (fun ρ1 _ => ret_ev (last_ok ρ1))
  obtain ⟨tr, htr, rfl⟩ := range_mem hx
  obtain ⟨s2, s3, s4, s5, s6, s7, s8, s9, s10, s11, s12, s13, s14, s15, s16, s17, rfl⟩ := hr
  let A : D := .lst (ds.map .int)
  let ρ0 : Sls := [.fz (.kl (ns.map .int)), .fz A, .fz (.int (tr : Int)), s3, s4, s5, s6, s7, s8, s9, s10, s11, s12, s13, s14, s15, s16, s17]
  obtain ⟨d, e1, p1, p2⟩ := draw_at hd (f := mVar 1) (g := mVar 2) (ρ := ρ0) (i := tr) rfl rfl (by omega)
  let ds' := (ds.drop (3 + 9 * tr)).take 11
  have hl' : ds'.length = 11 := by show ((ds.drop (3 + 9 * tr)).take 11).length = 11; rw [List.length_take, List.length_drop]; omega
  have hd' : Drawn ds' := fun x hx => hd x (List.mem_of_mem_drop (List.mem_of_mem_take hx))
  have q0 := Int.emod_nonneg d (show (9 : Int) ≠ 0 by decide)
  have q1 := Int.emod_lt_of_pos d (show (0 : Int) < 9 by decide)
  have q2 := Int.emod_nonneg (d / 9) (show (9 : Int) ≠ 0 by decide)
  have q3 := Int.emod_lt_of_pos (d / 9) (show (0 : Int) < 9 by decide)
  obtain ⟨rows, er, R, l0, r0, h00⟩ := rows_ok ds' (1 + (d % 9).toNat) (1 + (d / 9 % 9).toNat) hd' (by omega) (by omega) (by omega) (by omega) (by omega)
  have er' : F__law_rows [.lst (ds'.map .int), .int (1 + d % 9), .int (1 + d / 9 % 9)] = ok (rowsD rows) := by
    have a1 : ((1 + (d % 9).toNat : Nat) : Int) = 1 + d % 9 := by omega
    have a2 : ((1 + (d / 9 % 9).toNat : Nat) : Int) = 1 + d / 9 % 9 := by omega
    rw [a1, a2] at er
    exact er
  have esl : dSl A (some (3 + 9 * (tr : Int))) (some (14 + 9 * (tr : Int))) = some (.lst (ds'.map .int)) := by
    show some (D.lst (cutD (ds.map .int) _ _)) = _
    rw [cutD_both (by omega) (by omega), ← List.map_drop, ← List.map_take]
    rw [show (3 + 9 * (tr : Int)).toNat = 3 + 9 * tr by omega, show (14 + 9 * (tr : Int)).toNat - (3 + 9 * tr) = 11 by omega]
  generalize 1 + (d % 9).toNat = h at R
  generalize 1 + (d / 9 % 9).toNat = w at R
  let ρ1 : Sls := [.fz (.kl (ns.map .int)), .fz A, .fz (.int (tr : Int)), .fz (rowsD rows), s4, s5, s6, s7, s8, s9, s10, s11, s12, s13, s14, s15, s16, s17]
  refine ex_seq (ρ1 := ρ1) (set_ev (call_ev (args_ev (sl_both rfl (i_add rfl (i_mulL rfl rfl)) (i_add rfl (i_mulL rfl rfl)) esl) (args_ev (i_add rfl (i_mod e1 rfl)) (args_ev (i_add rfl (i_mod (i_div e1 rfl) rfl)) args0))) er')) ?_
  let I := Inv (.kl (ns.map .int)) A (.int (tr : Int)) (rowsD rows) (mz rows h w) (.tup ((cellsOf rows h w).map pt))
  refine ex_seq (par_ev (make_ev (args_ev rfl args0) (maze_ok R)) (call_ev (args_ev rfl args0) (cells_ok R))) ?_
  refine ex_seq2 (R1 := I) (for_all (R := I) (xs := rangeD 0 6) rfl (fun x hx ρ hr => ?_) ⟨_, _, _, _, _, _, _, _, _, _, _, _, rfl⟩) fun ρ2 hr2 => ?_
  · obtain ⟨k, hk, rfl⟩ := range_mem hx
    exact inner R h00 hd hl _ _ k hk ρ hr
  have hcl := cells_some R h00
  have hc0 : dIx (.tup ((cellsOf rows h w).map pt)) (.int 0) = some (pt (cellsOf rows h w)[0]) := by
    rw [dIx_tup (by decide), List.getElem?_map]
    show Option.map pt (cellsOf rows h w)[0]? = _
    rw [List.getElem?_eq_getElem hcl]
    rfl
  have ho : opn rows h w (cellsOf rows h w)[0] = true := cells_open (List.getElem_mem hcl)
  refine ex_seq2 (R1 := I) (for_all (R := I) (xs := [D.non, .int 7, .lst [.str "d"], .str "D", .str "d ", .tup [.str "d"], .bl true]) rfl (fun x hx ρ hr => ?_) hr2) fun ρ3 hr3 => ?_
  · have hw := wrong_word hx
    obtain ⟨s6, s7, s8, s9, s10, s11, s12, s13, s14, s15, s16, s17, rfl⟩ := hr
    refine ⟨_, if_nx ((or_ev (a := false) (b := false) (dNe_same (call_ev (args_ev rfl (args_ev rfl (args_ev (op2_ev rfl rfl hc0) (args_ev rfl args0)))) (err_word R ho 0 hw))) fun _ => dNe_same (call_ev (args_ev rfl (args_ev rfl (args_ev (op2_ev rfl rfl hc0) (args_ev rfl args0)))) (err_word R ho 1 hw))).trans rfl), ⟨_, _, _, _, _, _, _, _, _, _, _, _, rfl⟩⟩
  obtain ⟨ρ4, e4, hr4⟩ := for_all (it := mIt (mLst [(mC .non), (mTup [(mC (.int 99)), (mC (.int 0))]), (mTup [(mC (.int 0)), (mOp1 dNeg (mC (.int 1)))]), (mTup [(mC (.int 0))]), (mLst [(mC (.int 0)), (mC (.int 0))]), (mTup [(mC (.bl true)), (mC (.int 0))]), (mTup [(mC (.int 0)), (mC (.int 0)), (mC (.int 0))])])) (i := 15)
    (body := (sIf (mOr (mT (mOp2 dNe (mCall F__law_error [(mC (.int 0)), (mVar 4), (mVar 15), (mC .non)]) (mC (.str "cell")))) (mT (mOp2 dNe (mCall F__law_error [(mC (.int 1)), (mVar 4), (mVar 15), (mC .non)]) (mC (.str "cell"))))) (sRet (mC (.bl false))) sNx)) (R := I) (ρ := ρ3) (xs := [D.non, .tup [.int 99, .int 0], .tup [.int 0, .int (-1)], .tup [.int 0], .lst [.int 0, .int 0], .tup [.bl true, .int 0], .tup [.int 0, .int 0, .int 0]]) rfl (fun x hx ρ hr => by
      have hw := wrong_cell (rows := rows) (h := h) (w := w) R.h2 hx
      obtain ⟨s6, s7, s8, s9, s10, s11, s12, s13, s14, s15, s16, s17, rfl⟩ := hr
      exact ⟨_, if_nx ((or_ev (a := false) (b := false) (dNe_same (call_ev (args_ev rfl (args_ev rfl (args_ev rfl (args_ev rfl args0)))) (err_cell 0 hw))) fun _ => dNe_same (call_ev (args_ev rfl (args_ev rfl (args_ev rfl (args_ev rfl args0)))) (err_cell 1 hw))).trans rfl), ⟨_, _, _, _, _, _, _, _, _, _, _, _, rfl⟩⟩) hr3
  obtain ⟨_, _, _, _, _, _, _, _, _, _, _, _, rfl⟩ := hr4
  exact ⟨_, e4, ⟨_, _, _, _, _, _, _, _, _, _, _, _, _, _, _, _, rfl⟩⟩
end K60

namespace K60
open PySem PySem.Spec PyProof.Rows L2 PP
abbrev hk : PySem.W.Hook := He.hookX 5 faL fnL tsL [] exB
end K60
open PySem PySem.W PySem.Calls PyProof.Rows in
theorem PySem.Challenge.cw_mazemore_k60_words_and_reports_holds : PySem.Challenge.rw_mazemore_k60_words_and_reports.Holds := by
  w_on; o_law
  o_head K60.hk
  case hw => w_witness2
  case hc =>
    refine PP.walk_ofX (l := PySem.Challenge.rw_mazemore_k60_words_and_reports) (n := 63) (k := 8) (x := "script") (qual := "law") (st := K60.top 31) (Fl := K60.F_law) rfl (by decide) (by kernel_rfl) ⟨rfl, by decide, by decide⟩ ?F K60.law_true
    intro w mg fa h Y G hmg0
    obtain ⟨K, KX, c⟩ := Y
    have hmg : mg ("law" : PySem.Str) = some (.ref fa) := hmg0
    have T := K60.factsOf KX G c
    have e := hmg.symm.trans T.g_law
    cases e
    exact ⟨K, KX, T.d_law, fun base h1 h2 fd hfd => PP.FnP.at_ (K60.ok_law (P := (PySem.Challenge.rw_mazemore_k60_words_and_reports).prog) (base := base) T) hfd⟩

