import PyProof.Rows.All
import HandS.ForMost
import HandS.ForExc
import HandS.Exc
import HandS.ExcOwn
import HandS.ExcIs
import HandS.TryMany
import HandS.IsInst
import HandS.Deep
import HandS.More
import HandS.HeadHook1
import HandS.CallSlots
import KE.KDictKeyed
import HandS.TupAny
import HandS.Style
import KE.KRevSl
import HandS.Head0
import HandS.Head1
import HandS.Head2
import HandS.HeadEnd
import HandS.HeadHook2
import HandS.HeadHook3
import HandS.HeadHook4
import HandS.HeadNt
import HandS.WordsExc
import HandS.Codes
import KE.SortData
import KE.DataCmp
import HandS.TupLe
import PyProof.Rows.SeqRoads
import KE.DataMinMax
import KE.KDictDisplayH
import HandS.Iter
import KE.KDictWalk
import KE.KDictSum
import KE.KDictCopyH
import HandS.ExcValue
import HandS.List
import HandS.DictComp
import HandS.TupSets
import PySem.Challenge.RW_mazemore_k96_whole_dead_cells
set_option Elab.async false
set_option linter.all false
set_option maxRecDepth 100000
set_option maxHeartbeats 0
namespace PP
open PySem PySem.Spec PyProof.Rows L2

/-- plain data -/
inductive D where
  | non | bl (b : Bool) | int (i : Int) | str (x : Str) | ty (n : String)
  | tup (xs : List D) | lst (xs : List D)
  /-- a list of the written part, or one that is locked: the script -/
  | kl (xs : List D)
  | obj (c : Str) (fs : List (Str × D))
  | dct (kvs : List (D × D))
  deriving Inhabited

inductive Res (α : Type) where
  | ok (a : α) | exc (c : Str) | bad
namespace Res
variable {α β : Type}
def bind : Res α → (α → Res β) → Res β
  | ok a, f => f a
  | exc c, _ => exc c
  | bad, _ => bad
instance : Monad Res where
  pure := ok
  bind := bind
@[simp] theorem pure_eq (a : α) : (pure a : Res α) = ok a := rfl
@[simp] theorem ok_bind (a : α) (f : α → Res β) : (ok a >>= f) = f a := rfl
@[simp] theorem exc_bind (c : Str) (f : α → Res β) : (exc c >>= f) = exc c := rfl
@[simp] theorem bad_bind (f : α → Res β) : ((bad : Res α) >>= f) = bad := rfl
@[simp] theorem ok_bind' (a : α) (f : α → Res β) : bind (ok a) f = f a := rfl
@[simp] theorem exc_bind' (c : Str) (f : α → Res β) : bind (exc c) f = exc c := rfl
@[simp] theorem bad_bind' (f : α → Res β) : bind (bad : Res α) f = bad := rfl
/-- what raises is no value here -/
def quiet : Res α → Res α
  | ok a => ok a
  | _ => bad
@[simp] theorem quiet_ok (a : α) : quiet (ok a) = ok a := rfl
end Res
open Res (ok exc bad)

/-- a slot: empty; a value that is never changed; a value (its own object alone) that may be changed -/
inductive Sl where
  | no | fz (d : D) | ow (d : D) | me (a : Addr) (d : D)
  deriving Inhabited
abbrev Sls := List Sl

inductive Fl where
  | nx (ρ : Sls) | rt (d : D) | bk (ρ : Sls) | ct (ρ : Sls) | exc (c : Str) (ρ : Sls) | bad

/-! ### dicts whose keys are tuples of numbers and of such -/
def keyD : D → Option NestedKey
  | .int i => some (.num i)
  | .tup xs => (keyDs xs).map .tup
  | _ => none
where keyDs : List D → Option (List NestedKey)
  | [] => some []
  | x :: xs => (keyD x).bind fun k => (keyDs xs).map fun ks => k :: ks
/-- the dict's own object: its entries, whatever the world's hash of texts -/
def DictAt (a : Addr) (o : Obj) (xs : List (NestedKey × Addr × Value)) (h : Heap) : Prop :=
  (a == sysModules) = false ∧ h.get? a = some o ∧ o.ExactDict ∧ ∃ es ep, o.data = .dict es ep ∧ ∀ w : World, es.toList = xs.map fun x => ⟨x.1.hash w, .ref x.2.1, x.2.2⟩
/-! ### what represents what -/
/-- a list that is read and not owned -/
def SqF (K : PySem.W.Frag) (H : Hp) (O : Addr → Prop) (a : Addr) (vs : List V) : Prop :=
  (Rd H a (.lst vs) ∧ ¬ O a) ∨ ∃ (o : Obj) (its : Array Value) (n : Nat), K.lookup a = some o ∧ o.cls = .type "list" ∧ o.dict = none ∧ o.data = .seq its n ∧ its.size ≤ sizeLine ∧ Vals vs its.toList
theorem SqF.sql {K : PySem.W.Frag} {H : Hp} {O : Addr → Prop} {a : Addr} {vs : List V} (h : SqF K H O a vs) : SqL K H a vs := by
  rcases h with ⟨h, _⟩ | h
  · exact .inl h
  · exact .inr h
section
variable (K : PySem.W.Frag)
mutual
inductive Rep (H : Hp) (O : Addr → Prop) : V → D → Prop
  | non : Rep H O .non .non
  | bl (b : Bool) : Rep H O (.bl b) (.bl b)
  | int (i : Int) : Rep H O (.int i) (.int i)
  | str (x : Str) : Rep H O (.str x) (.str x)
  | ty (n : String) : Rep H O (.ty n) (.ty n)
  | tup {a : Addr} {vs : List V} {ds : List D} : SqT K H a vs → vs.length ≤ sizeLine → Reps H O vs ds → Rep H O (.ref a) (.tup ds)
  | lst {a : Addr} {vs : List V} {ds : List D} : Rd H a (.lst vs) → ¬ O a → vs.length ≤ sizeLine → Reps H O vs ds → Rep H O (.ref a) (.lst ds)
  | kl {a : Addr} {vs : List V} {ds : List D} : SqF K H O a vs → vs.length ≤ sizeLine → Reps H O vs ds → Rep H O (.ref a) (.kl ds)
  | obj {a dx : Addr} {c : Str} {fs : List (Str × V)} {gs : List (Str × D)} : H a = some (.ins (He.ga K c) dx fs) → ¬ O a → RepFs H O fs gs → Rep H O (.ref a) (.obj c gs)
  | dct {a : Addr} {ob : Obj} {xs : List (NestedKey × Addr × Value)} {kvs : List (D × D)} : H a = some (.ext (DictAt a ob xs)) → ¬ O a → xs.length ≤ sizeLine → (xs.map (·.1)).Nodup → RepKs H O xs kvs → Rep H O (.ref a) (.dct kvs)
inductive Reps (H : Hp) (O : Addr → Prop) : List V → List D → Prop
  | nil : Reps H O [] []
  | cons {v : V} {d : D} {vs : List V} {ds : List D} : Rep H O v d → Reps H O vs ds → Reps H O (v :: vs) (d :: ds)
inductive RepFs (H : Hp) (O : Addr → Prop) : List (Str × V) → List (Str × D) → Prop
  | nil : RepFs H O [] []
  | cons {x : Str} {v : V} {d : D} {fs : List (Str × V)} {gs : List (Str × D)} : Rep H O v d → RepFs H O fs gs → RepFs H O ((x, v) :: fs) ((x, d) :: gs)
inductive RepKs (H : Hp) (O : Addr → Prop) : List (NestedKey × Addr × Value) → List (D × D) → Prop
  | nil : RepKs H O [] []
  | cons {k : NestedKey} {b : Addr} {u : Value} {v : V} {dk dv : D} {xs : List (NestedKey × Addr × Value)} {kvs : List (D × D)} : Rep H O (.ref b) dk → keyD dk = some k → RelV v u → Rep H O v dv → RepKs H O xs kvs → RepKs H O ((k, b, u) :: xs) ((dk, dv) :: kvs)
end
/-- the same, its own object owned -/
def RepK (H : Hp) (O : Addr → Prop) (a : Addr) : D → Prop
  | .lst ds => ∃ vs, H a = some (.lst vs) ∧ vs.length ≤ sizeLine ∧ Reps K H O vs ds
  | .obj c gs => ∃ dx fs, H a = some (.ins (He.ga K c) dx fs) ∧ RepFs K H O fs gs
  | .dct kvs => ∃ ob xs, H a = some (.ext (DictAt a ob xs)) ∧ xs.length ≤ sizeLine ∧ (xs.map (·.1)).Nodup ∧ RepKs K H O xs kvs
  | _ => False
def RepN (H : Hp) (O : Addr → Prop) (v : V) (d : D) (a : Addr) : Prop := v = .ref a ∧ O a ∧ RepK K H O a d
inductive RSt (H : Hp) (O : Addr → Prop) : List (Option V) → Sls → List Addr → Prop
  | nil : RSt H O [] [] []
  | no {x : Option V} {σ : List (Option V)} {ρ : Sls} {F : List Addr} : RSt H O σ ρ F → RSt H O (x :: σ) (.no :: ρ) F
  | fz {v : V} {d : D} {σ : List (Option V)} {ρ : Sls} {F : List Addr} : Rep K H O v d → RSt H O σ ρ F → RSt H O (some v :: σ) (.fz d :: ρ) F
  | ow {v : V} {d : D} {a : Addr} {σ : List (Option V)} {ρ : Sls} {F : List Addr} : RepN K H O v d a → a ∉ F → RSt H O σ ρ F → RSt H O (some v :: σ) (.ow d :: ρ) (a :: F)
  | me {v : V} {d : D} {a : Addr} {σ : List (Option V)} {ρ : Sls} {F : List Addr} : RepN K H O v d a → a ∉ F → RSt H O σ ρ F → RSt H O (some v :: σ) (.me a d :: ρ) (a :: F)
end

section
variable {K : PySem.W.Frag} {H H' : Hp} {O O' : Addr → Prop} {v : V} {d : D} {a : Addr}
theorem rd_same {u : HO} (e : Same H H') (h : Rd H a u) : Rd H' a u := by
  rcases h with h | ⟨o, h⟩
  · exact .inl (e _ _ h)
  · exact .inr ⟨o, e _ _ h⟩
theorem sqt_same {xs : List V} (e : Same H H') (h : SqT K H a xs) : SqT K H' a xs := by
  rcases h with h | h
  · exact .inl (rd_same e h)
  · exact .inr h
theorem sql_same {xs : List V} (e : Same H H') (h : SqL K H a xs) : SqL K H' a xs := by
  rcases h with h | h
  · exact .inl (rd_same e h)
  · exact .inr h
theorem sqf_same {xs : List V} (e : Same H H') (h : SqF K H O a xs) : SqF K H' O a xs := by
  rcases h with ⟨h, n⟩ | h
  · exact .inl ⟨rd_same e h, n⟩
  · exact .inr h
theorem sqf_less {xs : List V} (e : ∀ a, O' a → O a) (h : SqF K H O a xs) : SqF K H O' a xs := by
  rcases h with ⟨h, n⟩ | h
  · exact .inl ⟨h, fun q => n (e _ q)⟩
  · exact .inr h
theorem rd_upd {b : Addr} {o u : HO} (h : Rd H a u) (n : a ≠ b) : Rd (upd H b o) a u := by
  rcases h with h | ⟨o', h⟩
  · exact .inl (by rw [upd_ne n]; exact h)
  · exact .inr ⟨o', by rw [upd_ne n]; exact h⟩
/-- no tuple stands at a -/
def NoTup (H : Hp) (a : Addr) : Prop := ∀ xs, ¬ Rd H a (.tup xs)
theorem noTup_lst {xs : List V} (h : H a = some (.lst xs)) : NoTup H a := fun ys r => by
  rcases r with r | ⟨o, r⟩ <;> (rw [h] at r; cases r)
mutual
theorem Rep.same (e : Same H H') : ∀ {v d}, Rep K H O v d → Rep K H' O v d
  | _, _, .non => .non
  | _, _, .bl b => .bl b
  | _, _, .int i => .int i
  | _, _, .str x => .str x
  | _, _, .ty n => .ty n
  | _, _, .tup h z r => .tup (sqt_same e h) z (Reps.same e r)
  | _, _, .lst h n z r => .lst (rd_same e h) n z (Reps.same e r)
  | _, _, .kl h z r => .kl (sqf_same e h) z (Reps.same e r)
  | _, _, .obj h n r => .obj (e _ _ h) n (RepFs.same e r)
  | _, _, .dct h n z q r => .dct (e _ _ h) n z q (RepKs.same e r)
theorem Reps.same (e : Same H H') : ∀ {vs ds}, Reps K H O vs ds → Reps K H' O vs ds
  | _, _, .nil => .nil
  | _, _, .cons r t => .cons (Rep.same e r) (Reps.same e t)
theorem RepFs.same (e : Same H H') : ∀ {vs ds}, RepFs K H O vs ds → RepFs K H' O vs ds
  | _, _, .nil => .nil
  | _, _, .cons r t => .cons (Rep.same e r) (RepFs.same e t)
theorem RepKs.same (e : Same H H') : ∀ {vs ds}, RepKs K H O vs ds → RepKs K H' O vs ds
  | _, _, .nil => .nil
  | _, _, .cons r k u s t => .cons (Rep.same e r) k u (Rep.same e s) (RepKs.same e t)
end
mutual
/-- fewer owned -/
theorem Rep.less (e : ∀ a, O' a → O a) : ∀ {v d}, Rep K H O v d → Rep K H O' v d
  | _, _, .non => .non
  | _, _, .bl b => .bl b
  | _, _, .int i => .int i
  | _, _, .str x => .str x
  | _, _, .ty n => .ty n
  | _, _, .tup h z r => .tup h z (Reps.less e r)
  | _, _, .lst h n z r => .lst h (fun q => n (e _ q)) z (Reps.less e r)
  | _, _, .kl h z r => .kl (sqf_less e h) z (Reps.less e r)
  | _, _, .obj h n r => .obj h (fun q => n (e _ q)) (RepFs.less e r)
  | _, _, .dct h n z q r => .dct h (fun q => n (e _ q)) z q (RepKs.less e r)
theorem Reps.less (e : ∀ a, O' a → O a) : ∀ {vs ds}, Reps K H O vs ds → Reps K H O' vs ds
  | _, _, .nil => .nil
  | _, _, .cons r t => .cons (Rep.less e r) (Reps.less e t)
theorem RepFs.less (e : ∀ a, O' a → O a) : ∀ {vs ds}, RepFs K H O vs ds → RepFs K H O' vs ds
  | _, _, .nil => .nil
  | _, _, .cons r t => .cons (Rep.less e r) (RepFs.less e t)
theorem RepKs.less (e : ∀ a, O' a → O a) : ∀ {vs ds}, RepKs K H O vs ds → RepKs K H O' vs ds
  | _, _, .nil => .nil
  | _, _, .cons r k u s t => .cons (Rep.less e r) k u (Rep.less e s) (RepKs.less e t)
end
/-- what is owned besides -/
abbrev Ad (O : Addr → Prop) (a : Addr) : Addr → Prop := fun b => O b ∨ b = a
theorem rd_some {u : HO} (h : Rd H a u) : H a ≠ none := by
  rcases h with h | ⟨o, h⟩ <;> (rw [h]; exact fun z => nomatch z)
theorem sqf_more {b : Addr} {xs : List V} (n : H b = none) (h : SqF K H O a xs) : SqF K H (Ad O b) a xs := by
  rcases h with ⟨h, m⟩ | h
  · exact .inl ⟨h, fun q => q.elim m fun z => rd_some h (z ▸ n)⟩
  · exact .inr h
mutual
/-- one more owned, that H does not know -/
theorem Rep.more {b : Addr} (n : H b = none) : ∀ {v d}, Rep K H O v d → Rep K H (Ad O b) v d
  | _, _, .non => .non
  | _, _, .bl b => .bl b
  | _, _, .int i => .int i
  | _, _, .str x => .str x
  | _, _, .ty n => .ty n
  | _, _, .tup h z r => .tup h z (Reps.more n r)
  | _, _, .lst h m z r => .lst h (fun q => q.elim m fun z => rd_some h (z ▸ n)) z (Reps.more n r)
  | _, _, .kl h z r => .kl (sqf_more n h) z (Reps.more n r)
  | _, _, .obj h m r => .obj h (fun q => q.elim m fun z => by subst z; rw [h] at n; cases n) (RepFs.more n r)
  | _, _, .dct h m z q r => .dct h (fun q => q.elim m fun z => by subst z; rw [h] at n; cases n) z q (RepKs.more n r)
theorem Reps.more {b : Addr} (n : H b = none) : ∀ {vs ds}, Reps K H O vs ds → Reps K H (Ad O b) vs ds
  | _, _, .nil => .nil
  | _, _, .cons r t => .cons (Rep.more n r) (Reps.more n t)
theorem RepFs.more {b : Addr} (n : H b = none) : ∀ {vs ds}, RepFs K H O vs ds → RepFs K H (Ad O b) vs ds
  | _, _, .nil => .nil
  | _, _, .cons r t => .cons (Rep.more n r) (RepFs.more n t)
theorem RepKs.more {b : Addr} (n : H b = none) : ∀ {vs ds}, RepKs K H O vs ds → RepKs K H (Ad O b) vs ds
  | _, _, .nil => .nil
  | _, _, .cons r k u s t => .cons (Rep.more n r) k u (Rep.more n s) (RepKs.more n t)
end
theorem sqf_upd {b : Addr} {o : HO} {xs : List V} (hb : O b) (h : SqF K H O a xs) : SqF K (upd H b o) O a xs := by
  rcases h with ⟨h, m⟩ | h
  · exact .inl ⟨rd_upd h fun z => m (z ▸ hb), m⟩
  · exact .inr h
theorem sqt_upd {b : Addr} {o : HO} {xs : List V} (hb : NoTup H b) (h : SqT K H a xs) : SqT K (upd H b o) a xs := by
  rcases h with h | h
  · exact .inl (rd_upd h fun z => hb xs (z ▸ h))
  · exact .inr h
mutual
/-- an owned object is changed -/
theorem Rep.upd {b : Addr} {o : HO} (hb : O b) (ht : NoTup H b) : ∀ {v d}, Rep K H O v d → Rep K (upd H b o) O v d
  | _, _, .non => .non
  | _, _, .bl b => .bl b
  | _, _, .int i => .int i
  | _, _, .str x => .str x
  | _, _, .ty n => .ty n
  | _, _, .tup h z r => .tup (sqt_upd ht h) z (Reps.upd hb ht r)
  | _, _, .lst h m z r => .lst (rd_upd h fun z => m (by rw [z]; exact hb)) m z (Reps.upd hb ht r)
  | _, _, .kl h z r => .kl (sqf_upd hb h) z (Reps.upd hb ht r)
  | _, _, .obj h m r => .obj ((upd_ne (fun z => m (by rw [z]; exact hb))).trans h) m (RepFs.upd hb ht r)
  | _, _, .dct h m z q r => .dct ((upd_ne (fun z => m (by rw [z]; exact hb))).trans h) m z q (RepKs.upd hb ht r)
theorem Reps.upd {b : Addr} {o : HO} (hb : O b) (ht : NoTup H b) : ∀ {vs ds}, Reps K H O vs ds → Reps K (upd H b o) O vs ds
  | _, _, .nil => .nil
  | _, _, .cons r t => .cons (Rep.upd hb ht r) (Reps.upd hb ht t)
theorem RepFs.upd {b : Addr} {o : HO} (hb : O b) (ht : NoTup H b) : ∀ {vs ds}, RepFs K H O vs ds → RepFs K (L2.upd H b o) O vs ds
  | _, _, .nil => .nil
  | _, _, .cons r t => .cons (Rep.upd hb ht r) (RepFs.upd hb ht t)
theorem RepKs.upd {b : Addr} {o : HO} (hb : O b) (ht : NoTup H b) : ∀ {vs ds}, RepKs K H O vs ds → RepKs K (L2.upd H b o) O vs ds
  | _, _, .nil => .nil
  | _, _, .cons r k u s t => .cons (Rep.upd hb ht r) k u (Rep.upd hb ht s) (RepKs.upd hb ht t)
end
theorem same_new {p : Addr} {o : HO} (h : H p = none) : Same H (upd H p o) := fun a u e => by
  rw [upd_ne (ne_of_none e h)]
  exact e
/-! ### lists -/
theorem Reps.length : ∀ {vs ds}, Reps K H O vs ds → vs.length = ds.length
  | _, _, .nil => rfl
  | _, _, .cons _ t => congrArg (· + 1) t.length
theorem Reps.get : ∀ {vs ds} {i : Nat} {d : D}, Reps K H O vs ds → ds[i]? = some d → ∃ v, vs[i]? = some v ∧ Rep K H O v d
  | _, _, _, _, .nil, e => by simp at e
  | _, _, 0, _, .cons r _, e => by
    simp at e
    subst e
    exact ⟨_, rfl, r⟩
  | _, _, i + 1, _, .cons _ t, e => by
    obtain ⟨u, h1, h2⟩ := Reps.get (i := i) t (by simpa using e)
    exact ⟨u, by simpa using h1, h2⟩
theorem Reps.getV : ∀ {vs ds} {i : Nat} {v : V}, Reps K H O vs ds → vs[i]? = some v → ∃ d, ds[i]? = some d ∧ Rep K H O v d
  | _, _, _, _, .nil, e => by simp at e
  | _, _, 0, _, .cons r _, e => by
    simp at e
    subst e
    exact ⟨_, rfl, r⟩
  | _, _, i + 1, _, .cons _ t, e => by
    obtain ⟨u, h1, h2⟩ := Reps.getV (i := i) t (by simpa using e)
    exact ⟨u, by simpa using h1, h2⟩
theorem Reps.append : ∀ {vs ws : List V} {ds es : List D}, Reps K H O vs ds → Reps K H O ws es → Reps K H O (vs ++ ws) (ds ++ es)
  | _, _, _, _, .nil, s => s
  | _, _, _, _, .cons r t, s => .cons r (t.append s)
theorem Reps.take : ∀ {vs : List V} {ds : List D} (n : Nat), Reps K H O vs ds → Reps K H O (vs.take n) (ds.take n)
  | _, _, 0, _ => .nil
  | _, _, _ + 1, .nil => .nil
  | _, _, n + 1, .cons r t => .cons r (t.take n)
theorem Reps.drop : ∀ {vs : List V} {ds : List D} (n : Nat), Reps K H O vs ds → Reps K H O (vs.drop n) (ds.drop n)
  | _, _, 0, r => r
  | _, _, _ + 1, .nil => .nil
  | _, _, n + 1, .cons _ t => t.drop n
theorem Reps.one {v : V} {d : D} (r : Rep K H O v d) : Reps K H O [v] [d] := .cons r .nil
theorem Reps.snoc {vs : List V} {ds : List D} {v : V} {d : D} (h : Reps K H O vs ds) (r : Rep K H O v d) : Reps K H O (vs ++ [v]) (ds ++ [d]) := h.append (.one r)
theorem Reps.set {v : V} {d : D} (r : Rep K H O v d) : ∀ {vs : List V} {ds : List D} (i : Nat), Reps K H O vs ds → Reps K H O (vs.set i v) (ds.set i d)
  | _, _, _, .nil => .nil
  | _, _, 0, .cons _ t => .cons r t
  | _, _, i + 1, .cons q t => .cons q (Reps.set r i t)
/-! ### the owned -/
theorem RepK.freeze (h : RepK K H O a d) (n : ¬ O' a) (l : ∀ b, O' b → O b) : Rep K H O' (.ref a) d := by
  cases d with
  | lst ds =>
    obtain ⟨vs, e, z, r⟩ := h
    exact .lst (.inl e) n z (r.less l)
  | obj c gs => obtain ⟨dx, fs, e, r⟩ := h; exact .obj e n (r.less l)
  | dct kvs => obtain ⟨ob, xs, e, z, q, r⟩ := h; exact .dct e n z q (r.less l)
  | _ => exact False.elim h
theorem RepK.noTup (h : RepK K H O a d) : NoTup H a := by
  cases d with
  | lst ds => obtain ⟨vs, e, _⟩ := h; exact noTup_lst e
  | obj c gs => obtain ⟨dx, fs, e, _⟩ := h; exact fun ys r => by rcases r with r | ⟨o, r⟩ <;> (rw [e] at r; cases r)
  | dct kvs => obtain ⟨ob, xs, e, _⟩ := h; exact fun ys r => by rcases r with r | ⟨o, r⟩ <;> (rw [e] at r; cases r)
  | _ => exact False.elim h
theorem RepK.some (h : RepK K H O a d) : H a ≠ none := by
  cases d with
  | lst ds => obtain ⟨vs, e, _⟩ := h; rw [e]; exact fun z => nomatch z
  | obj c gs => obtain ⟨dx, fs, e, _⟩ := h; rw [e]; exact fun z => nomatch z
  | dct kvs => obtain ⟨ob, xs, e, _⟩ := h; rw [e]; exact fun z => nomatch z
  | _ => exact False.elim h
theorem RepK.same (e : Same H H') (h : RepK K H O a d) : RepK K H' O a d := by
  cases d with
  | lst ds => obtain ⟨vs, q, z, r⟩ := h; exact ⟨vs, e _ _ q, z, r.same e⟩
  | obj c gs => obtain ⟨dx, fs, q, r⟩ := h; exact ⟨dx, fs, e _ _ q, r.same e⟩
  | dct kvs => obtain ⟨ob, xs, q, z, y, r⟩ := h; exact ⟨ob, xs, e _ _ q, z, y, r.same e⟩
  | _ => exact False.elim h
theorem RepK.more {b : Addr} (n : H b = none) (h : RepK K H O a d) : RepK K H (Ad O b) a d := by
  cases d with
  | lst ds => obtain ⟨vs, q, z, r⟩ := h; exact ⟨vs, q, z, r.more n⟩
  | obj c gs => obtain ⟨dx, fs, q, r⟩ := h; exact ⟨dx, fs, q, r.more n⟩
  | dct kvs => obtain ⟨ob, xs, q, z, y, r⟩ := h; exact ⟨ob, xs, q, z, y, r.more n⟩
  | _ => exact False.elim h
theorem RepK.less (e : ∀ a, O' a → O a) (h : RepK K H O a d) : RepK K H O' a d := by
  cases d with
  | lst ds => obtain ⟨vs, q, z, r⟩ := h; exact ⟨vs, q, z, r.less e⟩
  | obj c gs => obtain ⟨dx, fs, q, r⟩ := h; exact ⟨dx, fs, q, r.less e⟩
  | dct kvs => obtain ⟨ob, xs, q, z, y, r⟩ := h; exact ⟨ob, xs, q, z, y, r.less e⟩
  | _ => exact False.elim h
theorem RepK.upd {b : Addr} {o : HO} (hb : O b) (ht : NoTup H b) (n : a ≠ b) (h : RepK K H O a d) : RepK K (upd H b o) O a d := by
  cases d with
  | lst ds => obtain ⟨vs, q, z, r⟩ := h; exact ⟨vs, by rw [upd_ne n]; exact q, z, r.upd hb ht⟩
  | obj c gs => obtain ⟨dx, fs, q, r⟩ := h; exact ⟨dx, fs, by rw [upd_ne n]; exact q, r.upd hb ht⟩
  | dct kvs => obtain ⟨ob, xs, q, z, y, r⟩ := h; exact ⟨ob, xs, by rw [upd_ne n]; exact q, z, y, r.upd hb ht⟩
  | _ => exact False.elim h
/-! ### states -/
variable {σ : List (Option V)} {ρ : Sls} {F : List Addr}
theorem RSt.same (e : Same H H') : ∀ {σ ρ F}, RSt K H O σ ρ F → RSt K H' O σ ρ F
  | _, _, _, .nil => .nil
  | _, _, _, .no t => .no (t.same e)
  | _, _, _, .fz r t => .fz (r.same e) (t.same e)
  | _, _, _, .ow ⟨q, o, r⟩ n t => .ow ⟨q, o, r.same e⟩ n (t.same e)
  | _, _, _, .me ⟨q, o, r⟩ n t => .me ⟨q, o, r.same e⟩ n (t.same e)
theorem RSt.more {b : Addr} (n : H b = none) : ∀ {σ ρ F}, RSt K H O σ ρ F → RSt K H (Ad O b) σ ρ F
  | _, _, _, .nil => .nil
  | _, _, _, .no t => .no (t.more n)
  | _, _, _, .fz r t => .fz (r.more n) (t.more n)
  | _, _, _, .ow ⟨q, o, r⟩ m t => .ow ⟨q, .inl o, r.more n⟩ m (t.more n)
  | _, _, _, .me ⟨q, o, r⟩ m t => .me ⟨q, .inl o, r.more n⟩ m (t.more n)
theorem RSt.owned : ∀ {σ ρ F}, RSt K H O σ ρ F → ∀ a ∈ F, O a ∧ H a ≠ none
  | _, _, _, .nil, _, h => by simp at h
  | _, _, _, .no t, a, h => t.owned a h
  | _, _, _, .fz r t, a, h => t.owned a h
  | _, _, _, .ow ⟨q, o, r⟩ n t, a, h => by
    rcases List.mem_cons.mp h with e | h
    · subst e; exact ⟨o, r.some⟩
    · exact t.owned a h
  | _, _, _, .me ⟨q, o, r⟩ n t, a, h => by
    rcases List.mem_cons.mp h with e | h
    · subst e; exact ⟨o, r.some⟩
    · exact t.owned a h
theorem RSt.length : ∀ {σ ρ F}, RSt K H O σ ρ F → σ.length = ρ.length
  | _, _, _, .nil => rfl
  | _, _, _, .no t => congrArg (· + 1) t.length
  | _, _, _, .fz _ t => congrArg (· + 1) t.length
  | _, _, _, .ow _ _ t => congrArg (· + 1) t.length
  | _, _, _, .me _ _ t => congrArg (· + 1) t.length
theorem RSt.getF : ∀ {σ ρ F} {i : Nat} {d : D}, RSt K H O σ ρ F → ρ[i]? = some (.fz d) → ∃ v, σ[i]? = some (some v) ∧ Rep K H O v d
  | _, _, _, _, _, .nil, e => by simp at e
  | _, _, _, 0, _, .no t, e => by simp at e
  | _, _, _, 0, _, .fz r t, e => by
    simp at e
    subst e
    exact ⟨_, rfl, r⟩
  | _, _, _, 0, _, .ow _ _ t, e => by simp at e
  | _, _, _, 0, _, .me _ _ t, e => by simp at e
  | _, _, _, i + 1, _, .me _ _ t, e => by
    obtain ⟨v, h1, h2⟩ := t.getF (i := i) (by simpa using e)
    exact ⟨v, by simpa using h1, h2⟩
  | _, _, _, i + 1, _, .no t, e => by
    obtain ⟨v, h1, h2⟩ := t.getF (i := i) (by simpa using e)
    exact ⟨v, by simpa using h1, h2⟩
  | _, _, _, i + 1, _, .fz _ t, e => by
    obtain ⟨v, h1, h2⟩ := t.getF (i := i) (by simpa using e)
    exact ⟨v, by simpa using h1, h2⟩
  | _, _, _, i + 1, _, .ow _ _ t, e => by
    obtain ⟨v, h1, h2⟩ := t.getF (i := i) (by simpa using e)
    exact ⟨v, by simpa using h1, h2⟩
theorem RSt.getO : ∀ {σ ρ F} {i : Nat} {d : D}, RSt K H O σ ρ F → ρ[i]? = some (.ow d) → ∃ a, σ[i]? = some (some (.ref a)) ∧ a ∈ F ∧ O a ∧ RepK K H O a d
  | _, _, _, _, _, .nil, e => by simp at e
  | _, _, _, 0, _, .no t, e => by simp at e
  | _, _, _, 0, _, .ow ⟨q, o, r⟩ n t, e => by
    simp at e
    subst e q
    exact ⟨_, rfl, by simp, o, r⟩
  | _, _, _, 0, _, .fz _ t, e => by simp at e
  | _, _, _, 0, _, .me _ _ t, e => by simp at e
  | _, _, _, i + 1, _, .me _ _ t, e => by
    obtain ⟨v, h1, h2, h3⟩ := t.getO (i := i) (by simpa using e)
    exact ⟨v, by simpa using h1, List.mem_cons_of_mem _ h2, h3⟩
  | _, _, _, i + 1, _, .no t, e => by
    obtain ⟨v, h1, h2, h3⟩ := t.getO (i := i) (by simpa using e)
    exact ⟨v, by simpa using h1, h2, h3⟩
  | _, _, _, i + 1, _, .fz _ t, e => by
    obtain ⟨v, h1, h2, h3⟩ := t.getO (i := i) (by simpa using e)
    exact ⟨v, by simpa using h1, h2, h3⟩
  | _, _, _, i + 1, _, .ow _ _ t, e => by
    obtain ⟨v, h1, h2, h3⟩ := t.getO (i := i) (by simpa using e)
    exact ⟨v, by simpa using h1, List.mem_cons_of_mem _ h2, h3⟩
theorem RSt.getM : ∀ {σ ρ F} {i : Nat} {d : D} {a : Addr}, RSt K H O σ ρ F → ρ[i]? = some (.me a d) → σ[i]? = some (some (.ref a)) ∧ a ∈ F ∧ O a ∧ RepK K H O a d
  | _, _, _, _, _, _, .nil, e => by simp at e
  | _, _, _, 0, _, _, .no t, e => by simp at e
  | _, _, _, 0, _, _, .me ⟨q, o, r⟩ n t, e => by
    simp at e
    obtain ⟨e1, e2⟩ := e
    subst e1 e2 q
    exact ⟨rfl, by simp, o, r⟩
  | _, _, _, 0, _, _, .fz _ t, e => by simp at e
  | _, _, _, 0, _, _, .ow _ _ t, e => by simp at e
  | _, _, _, i + 1, _, _, .no t, e => by
    obtain ⟨h1, h2, h3⟩ := t.getM (i := i) (by simpa using e)
    exact ⟨by simpa using h1, h2, h3⟩
  | _, _, _, i + 1, _, _, .fz _ t, e => by
    obtain ⟨h1, h2, h3⟩ := t.getM (i := i) (by simpa using e)
    exact ⟨by simpa using h1, h2, h3⟩
  | _, _, _, i + 1, _, _, .ow _ _ t, e => by
    obtain ⟨h1, h2, h3⟩ := t.getM (i := i) (by simpa using e)
    exact ⟨by simpa using h1, List.mem_cons_of_mem _ h2, h3⟩
  | _, _, _, i + 1, _, _, .me _ _ t, e => by
    obtain ⟨h1, h2, h3⟩ := t.getM (i := i) (by simpa using e)
    exact ⟨by simpa using h1, List.mem_cons_of_mem _ h2, h3⟩
/-- the owned addresses after: fewer -/
theorem RSt.setN : ∀ {σ ρ F} (i : Nat) (x : Option V), RSt K H O σ ρ F → ∃ F', RSt K H O (σ.set i x) (ρ.set i .no) F' ∧ ∀ a ∈ F', a ∈ F
  | _, _, _, _, _, .nil => ⟨[], .nil, fun _ h => h⟩
  | _, _, _, 0, _, .no t => ⟨_, .no t, fun _ h => h⟩
  | _, _, _, 0, _, .fz _ t => ⟨_, .no t, fun _ h => h⟩
  | _, _, _, 0, _, .ow _ _ t => ⟨_, .no t, fun _ h => List.mem_cons_of_mem _ h⟩
  | _, _, _, 0, _, .me _ _ t => ⟨_, .no t, fun _ h => List.mem_cons_of_mem _ h⟩
  | _, _, _, i + 1, x, .me r n t => let ⟨F', h1, h2⟩ := t.setN i x; ⟨_ :: F', .me r (fun h => n (h2 _ h)) h1, fun a h => (List.mem_cons.mp h).elim (fun e => by subst e; simp) fun h => List.mem_cons_of_mem _ (h2 a h)⟩
  | _, _, _, i + 1, x, .no t => let ⟨F', h1, h2⟩ := t.setN i x; ⟨F', .no h1, h2⟩
  | _, _, _, i + 1, x, .fz r t => let ⟨F', h1, h2⟩ := t.setN i x; ⟨F', .fz r h1, h2⟩
  | _, _, _, i + 1, x, .ow r n t => let ⟨F', h1, h2⟩ := t.setN i x; ⟨_ :: F', .ow r (fun h => n (h2 _ h)) h1, fun a h => (List.mem_cons.mp h).elim (fun e => by subst e; simp) fun h => List.mem_cons_of_mem _ (h2 a h)⟩
theorem RSt.setF {v : V} {d : D} (r : Rep K H O v d) : ∀ {σ ρ F} (i : Nat), RSt K H O σ ρ F → ∃ F', RSt K H O (σ.set i (some v)) (ρ.set i (.fz d)) F' ∧ ∀ a ∈ F', a ∈ F
  | _, _, _, _, .nil => ⟨[], .nil, fun _ h => h⟩
  | _, _, _, 0, .no t => ⟨_, .fz r t, fun _ h => h⟩
  | _, _, _, 0, .fz _ t => ⟨_, .fz r t, fun _ h => h⟩
  | _, _, _, 0, .ow _ _ t => ⟨_, .fz r t, fun _ h => List.mem_cons_of_mem _ h⟩
  | _, _, _, 0, .me _ _ t => ⟨_, .fz r t, fun _ h => List.mem_cons_of_mem _ h⟩
  | _, _, _, i + 1, .me q n t => let ⟨F', h1, h2⟩ := RSt.setF r i t; ⟨_ :: F', .me q (fun h => n (h2 _ h)) h1, fun a h => (List.mem_cons.mp h).elim (fun e => by subst e; simp) fun h => List.mem_cons_of_mem _ (h2 a h)⟩
  | _, _, _, i + 1, .no t => let ⟨F', h1, h2⟩ := RSt.setF r i t; ⟨F', .no h1, h2⟩
  | _, _, _, i + 1, .fz q t => let ⟨F', h1, h2⟩ := RSt.setF r i t; ⟨F', .fz q h1, h2⟩
  | _, _, _, i + 1, .ow q n t => let ⟨F', h1, h2⟩ := RSt.setF r i t; ⟨_ :: F', .ow q (fun h => n (h2 _ h)) h1, fun a h => (List.mem_cons.mp h).elim (fun e => by subst e; simp) fun h => List.mem_cons_of_mem _ (h2 a h)⟩
theorem RSt.setO {v : V} {d : D} {a : Addr} (r : RepN K H O v d a) : ∀ {σ ρ F} (i : Nat), a ∉ F → RSt K H O σ ρ F → ∃ F', RSt K H O (σ.set i (some v)) (ρ.set i (.ow d)) F' ∧ ∀ b ∈ F', b = a ∨ b ∈ F
  | _, _, _, _, _, .nil => ⟨[], .nil, fun _ h => .inr h⟩
  | _, _, _, 0, n, .no t => ⟨_, .ow r n t, fun _ h => List.mem_cons.mp h⟩
  | _, _, _, 0, n, .fz _ t => ⟨_, .ow r n t, fun _ h => List.mem_cons.mp h⟩
  | _, _, _, 0, n, .ow _ _ t => ⟨_, .ow r (fun h => n (List.mem_cons_of_mem _ h)) t, fun _ h => (List.mem_cons.mp h).imp id (List.mem_cons_of_mem _)⟩
  | _, _, _, 0, n, .me _ _ t => ⟨_, .ow r (fun h => n (List.mem_cons_of_mem _ h)) t, fun _ h => (List.mem_cons.mp h).imp id (List.mem_cons_of_mem _)⟩
  | _, _, _, i + 1, n, .me q m t => by
    obtain ⟨F', h1, h2⟩ := RSt.setO r i (fun h => n (List.mem_cons_of_mem _ h)) t
    refine ⟨_ :: F', .me q (fun h => ?_) h1, fun c h => ?_⟩
    · rcases h2 _ h with e | h
      · exact n (by rw [e]; simp)
      · exact m h
    · rcases List.mem_cons.mp h with e | h
      · exact .inr (by rw [e]; simp)
      · exact (h2 c h).imp id (List.mem_cons_of_mem _)
  | _, _, _, i + 1, n, .no t => let ⟨F', h1, h2⟩ := RSt.setO r i n t; ⟨F', .no h1, h2⟩
  | _, _, _, i + 1, n, .fz q t => let ⟨F', h1, h2⟩ := RSt.setO r i n t; ⟨F', .fz q h1, h2⟩
  | _, _, _, i + 1, n, .ow q m t => by
    obtain ⟨F', h1, h2⟩ := RSt.setO r i (fun h => n (List.mem_cons_of_mem _ h)) t
    refine ⟨_ :: F', .ow q (fun h => ?_) h1, fun c h => ?_⟩
    · rcases h2 _ h with e | h
      · exact n (by rw [e]; simp)
      · exact m h
    · rcases List.mem_cons.mp h with e | h
      · exact .inr (by rw [e]; simp)
      · exact (h2 c h).imp id (List.mem_cons_of_mem _)
/-- all that is not a stands -/
theorem RSt.updOut {b : Addr} {o : HO} (hb : O b) (ht : NoTup H b) : ∀ {σ ρ F}, b ∉ F → RSt K H O σ ρ F → RSt K (upd H b o) O σ ρ F
  | _, _, _, _, .nil => .nil
  | _, _, _, n, .no t => .no (RSt.updOut hb ht n t)
  | _, _, _, n, .fz r t => .fz (r.upd hb ht) (RSt.updOut hb ht n t)
  | _, _, _, n, .ow ⟨q, o, r⟩ m t => .ow ⟨q, o, r.upd hb ht fun z => n (by rw [z]; simp)⟩ m (RSt.updOut hb ht (fun h => n (List.mem_cons_of_mem _ h)) t)
  | _, _, _, n, .me ⟨q, o, r⟩ m t => .me ⟨q, o, r.upd hb ht fun z => n (by rw [z]; simp)⟩ m (RSt.updOut hb ht (fun h => n (List.mem_cons_of_mem _ h)) t)
/-- the i-th slot's own object, at b, which the slot tells, is changed -/
theorem RSt.updMe {b : Addr} {o : HO} {d' : D} (hb : O b) (ht : NoTup H b) (hk : RepK K (upd H b o) O b d') : ∀ {σ ρ F} {i : Nat} {d : D}, ρ[i]? = some (.me b d) → RSt K H O σ ρ F → RSt K (upd H b o) O σ (ρ.set i (.me b d')) F
  | _, _, _, _, _, e, .nil => by simp at e
  | _, _, _, 0, _, e, .no t => by simp at e
  | _, _, _, 0, _, e, .fz _ t => by simp at e
  | _, _, _, 0, _, e, .ow _ _ t => by simp at e
  | _, _, _, 0, _, e, .me ⟨q, o, r⟩ m t => by
    simp at e
    obtain ⟨e1, e2⟩ := e
    subst e1 e2 q
    exact .me ⟨rfl, hb, hk⟩ m (RSt.updOut hb ht m t)
  | _, _, _, i + 1, _, e, .no t => .no (RSt.updMe hb ht hk (by simpa using e) t)
  | _, _, _, i + 1, _, e, .fz r t => .fz (r.upd hb ht) (RSt.updMe hb ht hk (by simpa using e) t)
  | _, _, _, i + 1, _, e, .ow ⟨q, o, r⟩ m t => by
    have e' := e
    rw [List.getElem?_cons_succ] at e'
    obtain ⟨h1, h2, _⟩ := t.getM e'
    exact .ow ⟨q, o, r.upd hb ht fun z => m (by rw [z]; exact h2)⟩ m (RSt.updMe hb ht hk e' t)
  | _, _, _, i + 1, _, e, .me ⟨q, o, r⟩ m t => by
    have e' := e
    rw [List.getElem?_cons_succ] at e'
    obtain ⟨h1, h2, _⟩ := t.getM e'
    exact .me ⟨q, o, r.upd hb ht fun z => m (by rw [z]; exact h2)⟩ m (RSt.updMe hb ht hk e' t)
/-- the i-th slot's own object, at b, is changed -/
theorem RSt.updAt {b : Addr} {o : HO} {d' : D} (hb : O b) (ht : NoTup H b) (hk : RepK K (upd H b o) O b d') : ∀ {σ ρ F} {i : Nat} {d : D}, ρ[i]? = some (.ow d) → σ[i]? = some (some (.ref b)) → RSt K H O σ ρ F → RSt K (upd H b o) O σ (ρ.set i (.ow d')) F
  | _, _, _, _, _, e, _, .nil => by simp at e
  | _, _, _, 0, _, e, _, .no t => by simp at e
  | _, _, _, 0, _, e, _, .fz _ t => by simp at e
  | _, _, _, 0, _, e, _, .me _ _ t => by simp at e
  | _, _, _, i + 1, _, e, e2, .me ⟨q, o, r⟩ m t => by
    have e' := e
    have e2' := e2
    rw [List.getElem?_cons_succ] at e' e2'
    obtain ⟨c, h1, h2, _⟩ := t.getO e'
    rw [e2'] at h1
    have e3 : b = c := by injection h1 with h1; injection h1 with h1; injection h1
    subst e3
    exact .me ⟨q, o, r.upd hb ht fun z => m (by rw [z]; exact h2)⟩ m (RSt.updAt hb ht hk e' e2' t)
  | _, _, _, 0, _, e, e2, .ow ⟨q, o, r⟩ m t => by
    subst q
    simp at e2
    subst e2
    exact .ow ⟨rfl, hb, hk⟩ m (RSt.updOut hb ht m t)
  | _, _, _, i + 1, _, e, e2, .no t => .no (RSt.updAt hb ht hk (by simpa using e) (by simpa using e2) t)
  | _, _, _, i + 1, _, e, e2, .fz r t => .fz (r.upd hb ht) (RSt.updAt hb ht hk (by simpa using e) (by simpa using e2) t)
  | _, _, _, i + 1, _, e, e2, .ow ⟨q, o, r⟩ m t => by
    have e' := e
    have e2' := e2
    rw [List.getElem?_cons_succ] at e' e2'
    obtain ⟨c, h1, h2, _⟩ := t.getO e'
    rw [e2'] at h1
    have e3 : b = c := by injection h1 with h1; injection h1 with h1; injection h1
    subst e3
    exact .ow ⟨q, o, r.upd hb ht fun z => m (by rw [z]; exact h2)⟩ m (RSt.updAt hb ht hk e' e2' t)
/-- the i-th slot's value is given away: it is never changed again -/
theorem RSt.freeze' : ∀ {σ ρ F} {i : Nat} {d : D}, RSt K H O σ ρ F → ρ[i]? = some (.ow d) → ∃ O' F', (∀ b, O' b → O b) ∧ RSt K H O' σ (ρ.set i (.fz d)) F' ∧ (∀ b ∈ F', b ∈ F) ∧ (∀ b, O b → O' b ∨ b ∈ F) := by
  intro σ ρ F i d t e
  obtain ⟨a, e1, hF, hO, hk⟩ := t.getO e
  -- O' is O without a
  refine ⟨fun b => O b ∧ b ≠ a, ?_⟩
  have key : ∀ {σ ρ F} {i : Nat}, ρ[i]? = some (.ow d) → σ[i]? = some (some (.ref a)) → RSt K H O σ ρ F → ∃ F', RSt K H (fun b => O b ∧ b ≠ a) σ (ρ.set i (.fz d)) F' ∧ (∀ b ∈ F', b ∈ F) := by
    have less : ∀ b, (O b ∧ b ≠ a) → O b := fun b h => h.1
    have away : ∀ {σ ρ F}, a ∉ F → RSt K H O σ ρ F → RSt K H (fun b => O b ∧ b ≠ a) σ ρ F := by
      intro σ ρ F n t
      induction t with
      | nil => exact .nil
      | no _ ih => exact .no (ih n)
      | fz r _ ih => exact .fz (r.less less) (ih n)
      | ow r m _ ih =>
        obtain ⟨q, o, r⟩ := r
        exact .ow ⟨q, ⟨o, fun z => n (by rw [z]; simp)⟩, r.less less⟩ m (ih fun h => n (List.mem_cons_of_mem _ h))
      | me r m _ ih =>
        obtain ⟨q, o, r⟩ := r
        exact .me ⟨q, ⟨o, fun z => n (by rw [z]; simp)⟩, r.less less⟩ m (ih fun h => n (List.mem_cons_of_mem _ h))
    intro σ ρ F i e e2 t
    induction t generalizing i with
    | nil => simp at e
    | no t ih =>
      cases i with
      | zero => simp at e
      | succ i =>
        obtain ⟨F', h1, h2⟩ := ih (i := i) (by simpa using e) (by simpa using e2)
        exact ⟨F', .no h1, h2⟩
    | fz r t ih =>
      cases i with
      | zero => simp at e
      | succ i =>
        obtain ⟨F', h1, h2⟩ := ih (i := i) (by simpa using e) (by simpa using e2)
        exact ⟨F', .fz (r.less less) h1, h2⟩
    | @ow v0 d0 a0 σ0 ρ0 F0 r m t ih =>
      obtain ⟨q, o, r⟩ := r
      cases i with
      | zero =>
        simp at e e2
        subst e q
        have e3 : a0 = a := by injection e2
        subst e3
        exact ⟨F0, .fz (r.freeze (fun z => z.2 rfl) less) (away m t), fun b h => List.mem_cons_of_mem _ h⟩
      | succ i =>
        have e2' : σ0[i]? = some (some (.ref a)) := by simpa using e2
        have e' : ρ0[i]? = some (.ow d) := by simpa using e
        obtain ⟨F', h1, h2⟩ := ih (i := i) e' e2'
        obtain ⟨c, g1, g2, _⟩ := t.getO e'
        rw [e2'] at g1
        have e3 : a = c := by injection g1 with g1; injection g1 with g1; injection g1
        subst e3
        exact ⟨a0 :: F', .ow ⟨q, ⟨o, fun z => m (by rw [z]; exact g2)⟩, r.less less⟩ (fun h => m (h2 _ h)) h1, fun b h => (List.mem_cons.mp h).elim (fun z => by rw [z]; simp) fun h => List.mem_cons_of_mem _ (h2 b h)⟩
    | @me v0 d0 a0 σ0 ρ0 F0 r m t ih =>
      obtain ⟨q, o, r⟩ := r
      cases i with
      | zero => simp at e
      | succ i =>
        have e2' : σ0[i]? = some (some (.ref a)) := by simpa using e2
        have e' : ρ0[i]? = some (.ow d) := by simpa using e
        obtain ⟨F', h1, h2⟩ := ih (i := i) e' e2'
        obtain ⟨c, g1, g2, _⟩ := t.getO e'
        rw [e2'] at g1
        have e3 : a = c := by injection g1 with g1; injection g1 with g1; injection g1
        subst e3
        exact ⟨a0 :: F', .me ⟨q, ⟨o, fun z => m (by rw [z]; exact g2)⟩, r.less less⟩ (fun h => m (h2 _ h)) h1, fun b h => (List.mem_cons.mp h).elim (fun z => by rw [z]; simp) fun h => List.mem_cons_of_mem _ (h2 b h)⟩
  obtain ⟨F', h1, h2⟩ := key e e1 t
  refine ⟨F', fun b h => h.1, h1, h2, fun b h => ?_⟩
  by_cases z : b = a
  · exact .inr (by rw [z]; exact hF)
  · exact .inl ⟨h, z⟩
end
end PP

namespace PP
open PySem PySem.Spec PyProof.Rows L2
open Res (ok exc bad)

/-! ### states -/
/-- what is owned stands, and is no tuple -/
def Dom (H : Hp) (O : Addr → Prop) : Prop := ∀ a, O a → H a ≠ none ∧ NoTup H a
structure Sta (K : PySem.W.Frag) (H : Hp) (O : Addr → Prop) (σ : L2.St) (ρ : Sls) (F : List Addr) : Prop where
  st : RSt K H O σ ρ F
  dom : Dom H O
structure Tr (H : Hp) (O : Addr → Prop) (F : List Addr) (H' : Hp) (O' : Addr → Prop) (F' : List Addr) : Prop where
  keep : ∀ a o, H a = some o → a ∉ F → H' a = some o
  new : ∀ a ∈ F', a ∈ F ∨ H a = none
  own : ∀ a, O a → O' a ∨ a ∈ F
  back : ∀ a, O' a → O a ∨ H a = none
section
variable {K : PySem.W.Frag} {H H' H1 H2 : Hp} {O O' O1 O2 : Addr → Prop} {σ σ' : L2.St} {ρ ρ' : Sls} {F F' F1 F2 : List Addr}
theorem dom_same {H H' : Hp} (e : Same H H') {a : Addr} (h : H a ≠ none) : H' a ≠ none := by
  cases q : H a with
  | none => exact absurd q h
  | some o => rw [e a o q]; exact fun z => nomatch z
theorem Dom.same (e : Same H H') (d : Dom H O) : Dom H' O := fun a h => by
  obtain ⟨h1, h2⟩ := d a h
  refine ⟨dom_same e h1, fun xs r => ?_⟩
  cases q : H a with
  | none => exact h1 q
  | some o =>
    have q' := e a o q
    rcases r with r | ⟨o', r⟩
    · rw [q'] at r; exact h2 xs (.inl (q.trans r))
    · rw [q'] at r; exact h2 xs (.inr ⟨o', q.trans r⟩)
theorem Sta.same (e : Same H H') (s : Sta K H O σ ρ F) : Sta K H' O σ ρ F := ⟨s.st.same e, s.dom.same e⟩
theorem Tr.same (e : Same H H') : Tr H O F H' O F := ⟨fun a o h _ => e a o h, fun _ h => .inl h, fun _ h => .inl h, fun _ h => .inl h⟩
theorem Tr.refl : Tr H O F H O F := .same (Same.refl H)
theorem Tr.trans (s : Sta K H O σ ρ F) (a : Tr H O F H1 O1 F1) (b : Tr H1 O1 F1 H2 O2 F2) : Tr H O F H2 O2 F2 where
  keep := fun x o h n => by
    refine b.keep x o (a.keep x o h n) fun h1 => ?_
    rcases a.new x h1 with q | q
    · exact n q
    · rw [h] at q; cases q
  new := fun x h => by
    rcases b.new x h with h1 | h1
    · exact a.new x h1
    · cases q : H x with
      | none => exact .inr rfl
      | some o =>
        by_cases n : x ∈ F
        · exact .inl n
        · rw [a.keep x o q n] at h1; cases h1
  own := fun x h => by
    rcases a.own x h with h1 | h1
    · rcases b.own x h1 with h2 | h2
      · exact .inl h2
      · rcases a.new x h2 with q | q
        · exact .inr q
        · exact absurd q (s.dom x h).1
    · exact .inr h1
  back := fun x h => by
    rcases b.back x h with h1 | h1
    · exact a.back x h1
    · cases q : H x with
      | none => exact .inr rfl
      | some o =>
        by_cases n : x ∈ F
        · exact .inl (s.st.owned x n).1
        · rw [a.keep x o q n] at h1; cases h1
end

/-! ### what is read where a container stands -/
def RepB (K : PySem.W.Frag) (H : Hp) (O : Addr → Prop) (v : V) (d : D) : Prop := Rep K H O v d ∨ ∃ a, v = .ref a ∧ RepK K H O a d
section
variable {K : PySem.W.Frag} {H H' : Hp} {O O' : Addr → Prop} {v : V} {d : D} {a : Addr}
theorem RepB.same (e : Same H H') (h : RepB K H O v d) : RepB K H' O v d := by
  rcases h with h | ⟨a, e1, h⟩
  · exact .inl (h.same e)
  · exact .inr ⟨a, e1, h.same e⟩
theorem RepB.lstR {ds : List D} (h : RepB K H O v (.lst ds)) : ∃ a vs, v = .ref a ∧ Rd H a (.lst vs) ∧ vs.length ≤ sizeLine ∧ Reps K H O vs ds := by
  rcases h with h | ⟨a, e1, vs, e2, z, r⟩
  · cases h with
    | lst h n z r => exact ⟨_, _, rfl, h, z, r⟩
  · exact ⟨a, vs, e1, .inl e2, z, r⟩
theorem RepB.lst {ds : List D} (h : RepB K H O v (.lst ds)) : ∃ a vs, v = .ref a ∧ SqL K H a vs ∧ vs.length ≤ sizeLine ∧ Reps K H O vs ds := by
  obtain ⟨a, vs, e, h, r⟩ := h.lstR
  exact ⟨a, vs, e, .inl h, r⟩
theorem RepB.kl {ds : List D} (h : RepB K H O v (.kl ds)) : ∃ a vs, v = .ref a ∧ SqL K H a vs ∧ vs.length ≤ sizeLine ∧ Reps K H O vs ds := by
  rcases h with h | ⟨a, e1, h⟩
  · cases h with
    | kl h z r => exact ⟨_, _, rfl, h.sql, z, r⟩
  · exact h.elim
theorem RepB.tup {ds : List D} (h : RepB K H O v (.tup ds)) : ∃ a vs, v = .ref a ∧ SqT K H a vs ∧ vs.length ≤ sizeLine ∧ Reps K H O vs ds := by
  rcases h with h | ⟨a, e1, h⟩
  · cases h with
    | tup h z r => exact ⟨_, _, rfl, h, z, r⟩
  · exact h.elim
theorem RepB.int {i : Int} (h : RepB K H O v (.int i)) : v = .int i := by
  rcases h with h | ⟨a, e1, h⟩
  · cases h; rfl
  · exact h.elim
theorem RepB.bl {i : Bool} (h : RepB K H O v (.bl i)) : v = .bl i := by
  rcases h with h | ⟨a, e1, h⟩
  · cases h; rfl
  · exact h.elim
theorem RepB.str {i : Str} (h : RepB K H O v (.str i)) : v = .str i := by
  rcases h with h | ⟨a, e1, h⟩
  · cases h; rfl
  · exact h.elim
theorem RepB.non (h : RepB K H O v .non) : v = .non := by
  rcases h with h | ⟨a, e1, h⟩
  · cases h; rfl
  · exact h.elim
theorem RepB.ty {n : String} (h : RepB K H O v (.ty n)) : v = .ty n := by
  rcases h with h | ⟨a, e1, h⟩
  · cases h; rfl
  · exact h.elim
theorem RepB.obj {c : Str} {gs : List (Str × D)} (h : RepB K H O v (.obj c gs)) : ∃ a dx fs, v = .ref a ∧ H a = some (.ins (He.ga K c) dx fs) ∧ RepFs K H O fs gs := by
  rcases h with h | ⟨a, e1, h⟩
  · cases h with
    | obj h n r => exact ⟨_, _, _, rfl, h, r⟩
  · obtain ⟨dx, fs, e, r⟩ := h
    exact ⟨a, dx, fs, e1, e, r⟩
theorem RepB.weak (h : RepB K H O v d) : Rep K H (fun _ => False) v d := by
  rcases h with h | ⟨a, e1, h⟩
  · exact h.less fun _ z => z.elim
  · subst e1; exact h.freeze (fun z => z) fun _ z => z.elim
theorem RepN.frz {p : Addr} (h : RepN K H (Ad O p) v d p) (n : ¬ O p) : Rep K H O v d := by
  obtain ⟨e, _, h⟩ := h
  subst e
  exact h.freeze n fun _ q => .inl q
theorem RepN.b {p : Addr} (h : RepN K H (Ad O p) v d p) : RepB K H O v d := .inr ⟨p, h.1, h.2.2.less fun _ q => .inl q⟩
end

/-! ### readings -/
abbrev EX := L2.St → XK
def Po (K : PySem.W.Frag) (E : EX) (σ : L2.St) (H : Hp) {α : Type} (r : Res α) (P : α → Prop) : Prop :=
  match r with
  | .ok a => P a
  | .exc c => ∀ H', Same H H' → E σ (.ref (He.ga K c)) none H'
  | .bad => False
section
variable {K : PySem.W.Frag} {E : EX} {σ : L2.St} {H H' : Hp} {α β : Type}
theorem Po.bind {r : Res α} {k : α → Res β} {P : β → Prop} (h : Po K E σ H (r >>= k) P) : Po K E σ H r fun a => Po K E σ H (k a) P := by
  cases r with
  | ok a => exact h
  | exc c => exact h
  | bad => exact h
theorem Po.imp {r : Res α} {P P' : α → Prop} (h : Po K E σ H r P) (i : ∀ a, P a → P' a) : Po K E σ H r P' := by
  cases r with
  | ok a => exact i a h
  | exc c => exact h
  | bad => exact h
theorem Po.later {r : Res α} {P : α → Prop} (e : Same H H') (h : Po K E σ H r P) : Po K E σ H' r P := by
  cases r with
  | ok a => exact h
  | exc c => exact fun H2 e2 => h H2 (e.trans e2)
  | bad => exact h
end
/-- a value that is pure | new, its own object owned | read at once | a test | arguments | arguments that are read -/
def tEF (K : PySem.W.Frag) (E : EX) (f : Sls → Res D) : TE := fun σ H Q => ∃ ρ O F, Sta K H O σ ρ F ∧ Po K E σ H (f ρ) fun d => ∀ v H', Same H H' → Rep K H' O v d → Q v H'
def tEN (K : PySem.W.Frag) (E : EX) (f : Sls → Res D) : TE := fun σ H Q => ∃ ρ O F, Sta K H O σ ρ F ∧ Po K E σ H (f ρ) fun d => ∀ v a H', Same H H' → H a = none → RepN K H' (Ad O a) v d a → Q v H'
def tEB (K : PySem.W.Frag) (E : EX) (f : Sls → Res D) : TE := fun σ H Q => ∃ ρ O F, Sta K H O σ ρ F ∧ Po K E σ H (f ρ) fun d => ∀ v H', Same H H' → RepB K H' O v d → Q v H'
def tET (K : PySem.W.Frag) (E : EX) (f : Sls → Res Bool) : TT := fun σ H Q => ∃ ρ O F, Sta K H O σ ρ F ∧ Po K E σ H (f ρ) fun b => ∀ H', Same H H' → Q b H'
def tEA (K : PySem.W.Frag) (E : EX) (f : Sls → Res (List D)) : TA := fun σ H Q => ∃ ρ O F, Sta K H O σ ρ F ∧ Po K E σ H (f ρ) fun ds => ∀ vs H', Same H H' → Reps K H' O vs ds → Q vs H'
inductive RepBs (K : PySem.W.Frag) (H : Hp) (O : Addr → Prop) : List V → List D → Prop
  | nil : RepBs K H O [] []
  | cons {v : V} {d : D} {vs : List V} {ds : List D} : RepB K H O v d → RepBs K H O vs ds → RepBs K H O (v :: vs) (d :: ds)
theorem RepBs.weak {K : PySem.W.Frag} {H : Hp} {O : Addr → Prop} : ∀ {vs : List V} {ds : List D}, RepBs K H O vs ds → Reps K H (fun _ => False) vs ds
  | _, _, .nil => .nil
  | _, _, .cons r t => .cons r.weak t.weak
def tEC (K : PySem.W.Frag) (E : EX) (f : Sls → Res (List D)) : TA := fun σ H Q => ∃ ρ O F, Sta K H O σ ρ F ∧ Po K E σ H (f ρ) fun ds => ∀ vs H', Same H H' → RepBs K H' O vs ds → Q vs H'
abbrev EF (X : Cx) (E : EX) (e : Expr) (f : Sls → Res D) : Prop := PE X e (tEF X.K E f)
abbrev EN (X : Cx) (E : EX) (e : Expr) (f : Sls → Res D) : Prop := PE X e (tEN X.K E f)
abbrev EB (X : Cx) (E : EX) (e : Expr) (f : Sls → Res D) : Prop := PE X e (tEB X.K E f)
abbrev ET (X : Cx) (E : EX) (e : Expr) (f : Sls → Res Bool) : Prop := PT X e (tET X.K E f)
abbrev EW (X : Cx) (E : EX) (e : Expr) (f : Sls → Res Bool) : Prop := PW X e (tET X.K E f)
abbrev EA (X : Cx) (E : EX) (es : List Expr) (f : Sls → Res (List D)) : Prop := PA X es (tEA X.K E f)
abbrev EC (X : Cx) (E : EX) (es : List Expr) (f : Sls → Res (List D)) : Prop := PA X es (tEC X.K E f)

section
variable {X : Cx}
theorem pe_imp {e : Expr} {t t' : TE} (h : PE X e t) (i : ∀ σ H Q, t' σ H Q → t σ H Q) : PE X e t' := ⟨fun pins s σ H Q I q => h.run pins s σ H Q I (i σ H Q q)⟩
theorem pt_imp {e : Expr} {t t' : TT} (h : PT X e t) (i : ∀ σ H Q, t' σ H Q → t σ H Q) : PT X e t' := ⟨fun pins s σ H Q I q => h.run pins s σ H Q I (i σ H Q q)⟩
theorem pw_imp {e : Expr} {t t' : TT} (h : PW X e t) (i : ∀ σ H Q, t' σ H Q → t σ H Q) : PW X e t' := ⟨fun w pins s σ H Q I q => h.run w pins s σ H Q I (i σ H Q q)⟩
theorem pa_imp {e : List Expr} {t t' : TA} (h : PA X e t) (i : ∀ σ H Q, t' σ H Q → t σ H Q) : PA X e t' := ⟨fun p pins s σ H Q I q => h.run p pins s σ H Q I (i σ H Q q)⟩
theorem ps_imp {e : Stmt} {t t' : TS} (h : PS X e t) (i : ∀ D σ H, t' D σ H → t D σ H) : PS X e t' := ⟨fun pins s σ H D I q => h.run pins s σ H D I (i D σ H q)⟩
theorem pss_imp {e : List Stmt} {t t' : TS} (h : PSs X e t) (i : ∀ D σ H, t' D σ H → t D σ H) : PSs X e t' := ⟨fun pins s σ H D I q => h.run pins s σ H D I (i D σ H q)⟩
variable {E : EX} {e : Expr} {f : Sls → Res D}
/-! ### from one to another -/
theorem EF.b (h : EF X E e f) : EB X E e f := pe_imp h fun σ H Q ⟨ρ, O, F, s, p⟩ => ⟨ρ, O, F, s, p.imp fun d k v H' e r => k v H' e (.inl r)⟩
theorem not_new {K : PySem.W.Frag} {H : Hp} {O : Addr → Prop} {σ : L2.St} {ρ : Sls} {F : List Addr} (s : Sta K H O σ ρ F) {a : Addr} (n : H a = none) : ¬ O a := fun h => (s.dom a h).1 n
theorem EN.fz (h : EN X E e f) : EF X E e f := pe_imp h fun σ H Q ⟨ρ, O, F, s, p⟩ => ⟨ρ, O, F, s, p.imp fun d k v a H' e n r => k v H' e (r.frz (not_new s n))⟩
theorem EN.b (h : EN X E e f) : EB X E e f := pe_imp h fun σ H Q ⟨ρ, O, F, s, p⟩ => ⟨ρ, O, F, s, p.imp fun d k v a H' e n r => k v H' e r.b⟩
theorem EW.t {f : Sls → Res Bool} (h : EW X E e f) : ET X E e f := h.pt

/-! ### names, constants -/
def mVar (i : Nat) : Sls → Res D := fun ρ => match ρ[i]? with
  | some (.fz d) => ok d
  | _ => bad
def mVarB (i : Nat) : Sls → Res D := fun ρ => match ρ[i]? with
  | some (.fz d) => ok d
  | some (.ow d) => ok d
  | some (.me _ d) => ok d
  | _ => bad
def mC (d : D) : Sls → Res D := fun _ => ok d
theorem ef_var (i : Nat) {x : Str} {pos : Pos} (hN : X.N[i]? = some x := by rfl) (hv : Vis X.env.scope x := by first | exact Or.inl rfl | exact Or.inr (Or.inl rfl) | exact Or.inr (Or.inr rfl)) (hd : (x == ("__debug__" : Str)) = false := by decide)
    (hcd : (x == ("__classdict__" : Str)) = false := by decide) : EF X E (.Name x pos) (mVar i) := pe_imp (pe_var hN hv hd hcd) fun σ H Q ⟨ρ, O, F, s, p⟩ => by
  unfold mVar at p
  cases e : ρ[i]? with
  | none => rw [e] at p; exact p.elim
  | some q =>
    cases q with
    | fz d =>
      rw [e] at p
      obtain ⟨v, h1, h2⟩ := s.st.getF e
      exact ⟨v, h1, p v H (Same.refl H) h2⟩
    | _ => rw [e] at p; exact p.elim
theorem eb_var (i : Nat) {x : Str} {pos : Pos} (hN : X.N[i]? = some x := by rfl) (hv : Vis X.env.scope x := by first | exact Or.inl rfl | exact Or.inr (Or.inl rfl) | exact Or.inr (Or.inr rfl)) (hd : (x == ("__debug__" : Str)) = false := by decide)
    (hcd : (x == ("__classdict__" : Str)) = false := by decide) : EB X E (.Name x pos) (mVarB i) := pe_imp (pe_var hN hv hd hcd) fun σ H Q ⟨ρ, O, F, s, p⟩ => by
  unfold mVarB at p
  cases e : ρ[i]? with
  | none => rw [e] at p; exact p.elim
  | some q =>
    cases q with
    | fz d =>
      rw [e] at p
      obtain ⟨v, h1, h2⟩ := s.st.getF e
      exact ⟨v, h1, p v H (Same.refl H) (.inl h2)⟩
    | ow d =>
      rw [e] at p
      obtain ⟨a, h1, _, _, h2⟩ := s.st.getO e
      exact ⟨_, h1, p _ H (Same.refl H) (.inr ⟨a, rfl, h2⟩)⟩
    | me a d =>
      rw [e] at p
      obtain ⟨h1, _, _, h2⟩ := s.st.getM e
      exact ⟨_, h1, p _ H (Same.refl H) (.inr ⟨a, rfl, h2⟩)⟩
    | _ => rw [e] at p; exact p.elim
theorem ef_c {v : V} {d : D} (h : PE X e (tC v)) (r : ∀ H O, Rep X.K H O v d) : EF X E e (mC d) := pe_imp h fun σ H Q ⟨ρ, O, F, s, p⟩ => p v H (Same.refl H) (r H O)
theorem ef_int {i : Int} {j : Nat} {pos : Pos} : EF X E (.Constant (.int i) j pos) (mC (.int i)) := ef_c pe_int fun _ _ => .int i
theorem ef_bl {b : Bool} {j : Nat} {pos : Pos} : EF X E (.Constant (.bool b) j pos) (mC (.bl b)) := ef_c pe_bl fun _ _ => .bl b
theorem ef_non {j : Nat} {pos : Pos} : EF X E (.Constant .none j pos) (mC .non) := ef_c pe_non fun _ _ => .non
theorem ef_str {x : Str} {j : Nat} {pos : Pos} : EF X E (.Constant (.str x) j pos) (mC (.str x)) := ef_c pe_str fun _ _ => .str x
theorem ef_gint {x : Str} {i : Int} {pos : Pos} (hm : ∃ t, X.mg x = some (.int i t)) (hg : Gl X x := by rfl) (hd : (x == ("__debug__" : Str)) = false := by decide) : EF X E (.Name x pos) (mC (.int i)) := by
  obtain ⟨t, hm⟩ := hm
  exact ef_c (v := .int i) (pe_glob hg hm ⟨t, rfl⟩ hd) fun _ _ => .int i
theorem ef_gstr {x z : Str} {pos : Pos} (hm : ∃ t, X.mg x = some (.str z t)) (hg : Gl X x := by rfl) (hd : (x == ("__debug__" : Str)) = false := by decide) : EF X E (.Name x pos) (mC (.str z)) := by
  obtain ⟨t, hm⟩ := hm
  exact ef_c (v := .str z) (pe_glob hg hm ⟨t, rfl⟩ hd) fun _ _ => .str z
theorem ef_bty {x : Str} {n : String} {pos : Pos} (hm : X.mg x = none) (hg : Gl X x := by rfl) (hv : bootBuiltins x = some (.type n) := by decide +kernel) (hn : x ≠ "__name__" := by decide) (hd : (x == ("__debug__" : Str)) = false := by decide) : EF X E (.Name x pos) (mC (.ty n)) :=
  ef_c (v := .ty n) (pe_bltn hg hm hv rfl hn hd) fun _ _ => .ty n

/-! ### operators -/
def ofO {α : Type} : Option α → Res α
  | some a => ok a
  | none => bad
@[simp] theorem ofO_some {α : Type} (a : α) : ofO (some a) = ok a := rfl
@[simp] theorem ofO_none {α : Type} : ofO (none : Option α) = bad := rfl
/-- what a pure | a new answer is to reach -/
def VP (K : PySem.W.Frag) (H : Hp) (O : Addr → Prop) (Q : VK) : Option D → Prop
  | some d => ∀ v H', Same H H' → Rep K H' O v d → Q v H'
  | none => False
def VN (K : PySem.W.Frag) (H : Hp) (O : Addr → Prop) (Q : VK) : Option D → Prop
  | some d => ∀ v a H', Same H H' → H a = none → RepN K H' (Ad O a) v d a → Q v H'
  | none => False
theorem Po.vp {K : PySem.W.Frag} {E : EX} {σ : L2.St} {H H' : Hp} {O : Addr → Prop} {Q : VK} {r : Option D} (e : Same H H') (h : Po K E σ H (ofO r) fun d => ∀ v H', Same H H' → Rep K H' O v d → Q v H') : VP K H' O Q r := by
  cases r with
  | none => exact h.elim
  | some d => exact fun v H2 e2 r => h v H2 (e.trans e2) r
theorem Po.vn {K : PySem.W.Frag} {E : EX} {σ : L2.St} {H H' : Hp} {O : Addr → Prop} {Q : VK} {r : Option D} (e : Same H H') (h : Po K E σ H (ofO r) fun d => ∀ v a H', Same H H' → H a = none → RepN K H' (Ad O a) v d a → Q v H') : VN K H' O Q r := by
  cases r with
  | none => exact h.elim
  | some d => exact fun v a H2 e2 n r => h v a H2 (e.trans e2) (e.free n) r
def mOp2 (h : D → D → Option D) (f g : Sls → Res D) : Sls → Res D := fun ρ => f ρ >>= fun x => g ρ >>= fun y => ofO (h x y)
def mOp1 (h : D → Option D) (f : Sls → Res D) : Sls → Res D := fun ρ => f ρ >>= fun x => ofO (h x)
abbrev Op2 (K : PySem.W.Frag) (r : R2) (h : D → D → Option D) : Prop := ∀ H O x y dx dy Q, Dom H O → RepB K H O x dx → RepB K H O y dy → VP K H O Q (h dx dy) → r x y H Q
abbrev Op2N (K : PySem.W.Frag) (r : R2) (h : D → D → Option D) : Prop := ∀ H O x y dx dy Q, Dom H O → RepB K H O x dx → RepB K H O y dy → VN K H O Q (h dx dy) → r x y H Q
variable {a b : Expr} {g : Sls → Res D} {h : D → D → Option D} {r : R2} {pos : Pos}
theorem seq2 {K : PySem.W.Frag} {k : D → D → Res D} {P : Hp → (Addr → Prop) → D → VK → Prop} {σ : L2.St} {H : Hp} {Q : VK} {R : V → V → Hp → Prop}
    (hq : ∃ ρ O F, Sta K H O σ ρ F ∧ Po K E σ H (f ρ >>= fun x => g ρ >>= fun y => k x y) fun d => P H O d Q)
    (go : ∀ O H1 x y dx dy, Same H H1 → Dom H1 O → RepB K H1 O x dx → RepB K H1 O y dy → (Po K E σ H (k dx dy) fun d => P H O d Q) → R x y H1) :
    tEB K E f σ H fun x H1 => tEB K E g σ H1 fun y H2 => R x y H2 := by
  obtain ⟨ρ, O, F, s, p⟩ := hq
  refine ⟨ρ, O, F, s, p.bind.imp fun dx p1 x H1 e1 r1 => ⟨ρ, O, F, s.same e1, (p1.bind.imp fun dy p2 y H2 e2 r2 => ?_).later e1⟩⟩
  exact go O H2 x y dx dy (e1.trans e2) (s.same (e1.trans e2)).dom (r1.same e2) r2 p2
theorem ef_op {op : Operator} (ho : OpR X (binaryOp op) r) (hh : Op2 X.K r h) (ha : EB X E a f) (hb : EB X E b g) : EF X E (.BinOp a op b pos) (mOp2 h f g) :=
  pe_imp (pe_op ho ha hb) fun σ H Q hq => seq2 (P := fun H O d Q => ∀ v H', Same H H' → Rep X.K H' O v d → Q v H') hq fun O H1 x y dx dy e1 d1 rx ry p => hh H1 O x y dx dy Q d1 rx ry (p.vp e1)
theorem en_op {op : Operator} (ho : OpR X (binaryOp op) r) (hh : Op2N X.K r h) (ha : EB X E a f) (hb : EB X E b g) : EN X E (.BinOp a op b pos) (mOp2 h f g) :=
  pe_imp (pe_op ho ha hb) fun σ H Q hq => seq2 (P := fun H O d Q => ∀ v a H', Same H H' → H a = none → RepN X.K H' (Ad O a) v d a → Q v H') hq fun O H1 x y dx dy e1 d1 rx ry p => hh H1 O x y dx dy Q d1 rx ry (p.vn e1)
theorem ef_cmp {op : CmpOp} (ho : OpR X (compareOp op) r) (hh : Op2 X.K r h) (ha : EB X E a f) (hb : EB X E b g) (hm : behindInMarks op b = false) : EF X E (.Compare a [op] [b] pos) (mOp2 h f g) :=
  pe_imp (pe_cmpR ho ha hb hm) fun σ H Q hq => seq2 (P := fun H O d Q => ∀ v H', Same H H' → Rep X.K H' O v d → Q v H') hq fun O H1 x y dx dy e1 d1 rx ry p => hh H1 O x y dx dy Q d1 rx ry (p.vp e1)
/-- a bool of a value -/
def asB : D → Option Bool
  | .bl b => some b
  | _ => none
def mT (f : Sls → Res D) : Sls → Res Bool := fun ρ => f ρ >>= fun x => ofO (asB x)
theorem Po.asB {K : PySem.W.Frag} {E : EX} {σ : L2.St} {H H1 : Hp} {O : Addr → Prop} {Q : Bool → Hp → Prop} {r : Option D} (e : Same H H1) (p : Po K E σ H (ofO r >>= fun x => ofO (PP.asB x)) fun b => ∀ H', Same H H' → Q b H') : VP K H1 O (fun x H' => ∃ k, x = V.bl k ∧ Q k H') r := by
  cases r with
  | none => exact p.elim
  | some d =>
    cases d with
    | bl b =>
      intro v H2 e2 rv
      cases rv
      exact ⟨b, rfl, p H2 (e.trans e2)⟩
    | _ => exact p.elim
theorem res_assoc {α β γ : Type} (r : Res α) (k : α → Res β) (l : β → Res γ) : ((r >>= k) >>= l) = (r >>= fun x => k x >>= l) := by cases r <;> rfl
theorem et_cmp {op : CmpOp} (ho : OpR X (compareOp op) r) (hh : Op2 X.K r h) (ha : EB X E a f) (hb : EB X E b g) (hm : behindInMarks op b = false) : ET X E (.Compare a [op] [b] pos) (mT (mOp2 h f g)) :=
  pt_imp (pt_cmpR ho ha hb hm) fun σ H Q ⟨ρ, O, F, s, p⟩ => by
    have p' : Po X.K E σ H (f ρ >>= fun x => g ρ >>= fun y => (ofO (h x y) >>= fun x => ofO (PP.asB x))) fun b => ∀ H', Same H H' → Q b H' := by
      have p0 : Po X.K E σ H ((f ρ >>= fun x => g ρ >>= fun y => ofO (h x y)) >>= fun x => ofO (PP.asB x)) fun b => ∀ H', Same H H' → Q b H' := p
      simpa only [res_assoc] using p0
    refine ⟨ρ, O, F, s, p'.bind.imp fun dx p1 x H1 e1 r1 => ⟨ρ, O, F, s.same e1, (p1.bind.imp fun dy p2 y H2 e2 r2 => ?_).later e1⟩⟩
    exact hh H2 O x y dx dy _ (s.same (e1.trans e2)).dom (r1.same e2) r2 (p2.asB (e1.trans e2))
theorem et_val (ha : EF X E e f) (he : ∀ whole, isTrue e X.env whole = (do let v ← whole; standAt e.pos; holding [v] (truthy v)) := by intro _; rfl) : ET X E e (mT f) :=
  pt_imp (pt_val ha he) fun σ H Q ⟨ρ, O, F, s, p⟩ => ⟨ρ, O, F, s, by
    refine p.bind.imp fun d p1 v H1 e1 r1 => ?_
    cases d with
    | bl b => cases r1; exact ⟨b, rfl, p1 H1 e1⟩
    | _ => exact p1.elim⟩
/-! ### and, or, not -/
def mAnd (f g : Sls → Res Bool) : Sls → Res Bool := fun ρ => f ρ >>= fun b => if b then g ρ else ok false
def mOr (f g : Sls → Res Bool) : Sls → Res Bool := fun ρ => f ρ >>= fun b => if b then ok true else g ρ
def mNot (f : Sls → Res Bool) : Sls → Res Bool := fun ρ => f ρ >>= fun b => ok (!b)
variable {tf tg : Sls → Res Bool} {rest : List Expr}
theorem ew_and1 (ha : ET X E a tf) : EW X E (.BoolOp .And [a] pos) tf := pw_and1 ha
theorem ew_or1 (ha : ET X E a tf) : EW X E (.BoolOp .Or [a] pos) tf := pw_or1 ha
theorem ew_and (ha : ET X E a tf) (hb : EW X E (.BoolOp .And (b :: rest) pos) tg) : EW X E (.BoolOp .And (a :: b :: rest) pos) (mAnd tf tg) :=
  pw_imp (pw_and ha hb) fun σ H Q ⟨ρ, O, F, s, p⟩ => ⟨ρ, O, F, s, p.bind.imp fun c p1 H1 e1 => by
    cases c with
    | true => exact iteT ⟨ρ, O, F, s.same e1, (Po.later e1 p1).imp fun _ k H2 e2 => k H2 (e1.trans e2)⟩
    | false => exact iteF (p1 H1 e1)⟩
theorem ew_or (ha : ET X E a tf) (hb : EW X E (.BoolOp .Or (b :: rest) pos) tg) : EW X E (.BoolOp .Or (a :: b :: rest) pos) (mOr tf tg) :=
  pw_imp (pw_or ha hb) fun σ H Q ⟨ρ, O, F, s, p⟩ => ⟨ρ, O, F, s, p.bind.imp fun c p1 H1 e1 => by
    cases c with
    | true => exact iteT (p1 H1 e1)
    | false => exact iteF ⟨ρ, O, F, s.same e1, (Po.later e1 p1).imp fun _ k H2 e2 => k H2 (e1.trans e2)⟩⟩
theorem et_not (ha : ET X E a tf) : ET X E (.UnaryOp .Not a pos) (mNot tf) :=
  pt_imp (pt_not ha) fun σ H Q ⟨ρ, O, F, s, p⟩ => ⟨ρ, O, F, s, p.bind⟩
def mBV (f : Sls → Res Bool) : Sls → Res D := fun ρ => f ρ >>= fun b => ok (.bl b)
/-- .. as values -/
def mAndV (f g : Sls → Res D) : Sls → Res D := fun ρ => f ρ >>= fun x => ofO (asB x) >>= fun b => if b then g ρ else ok (.bl false)
def mOrV (f g : Sls → Res D) : Sls → Res D := fun ρ => f ρ >>= fun x => ofO (asB x) >>= fun b => if b then ok (.bl true) else g ρ
def mNotV (f : Sls → Res D) : Sls → Res D := fun ρ => f ρ >>= fun x => ofO (asB x) >>= fun b => ok (.bl (!b))
theorem ef_one {op : BoolOp} (ha : EF X E a f) : EF X E (.BoolOp op [a] pos) f := pe_one ha
theorem ef_and (ha : EF X E a f) (hb : EF X E (.BoolOp .And (b :: rest) pos) g) : EF X E (.BoolOp .And (a :: b :: rest) pos) (mAndV f g) :=
  pe_imp (pe_and ha hb) fun σ H Q ⟨ρ, O, F, s, p⟩ => ⟨ρ, O, F, s, p.bind.imp fun d p1 v H1 e1 r1 => by
    cases d with
    | bl c =>
      cases r1
      refine ⟨c, rfl, ?_⟩
      cases c with
      | true => exact iteT ⟨ρ, O, F, s.same e1, (Po.later e1 p1).imp fun _ k v H2 e2 r => k v H2 (e1.trans e2) r⟩
      | false => exact iteF (p1 _ H1 e1 (.bl false))
    | _ => exact p1.elim⟩
theorem ef_or (ha : EF X E a f) (hb : EF X E (.BoolOp .Or (b :: rest) pos) g) : EF X E (.BoolOp .Or (a :: b :: rest) pos) (mOrV f g) :=
  pe_imp (pe_or ha hb) fun σ H Q ⟨ρ, O, F, s, p⟩ => ⟨ρ, O, F, s, p.bind.imp fun d p1 v H1 e1 r1 => by
    cases d with
    | bl c =>
      cases r1
      refine ⟨c, rfl, ?_⟩
      cases c with
      | true => exact iteT (p1 _ H1 e1 (.bl true))
      | false => exact iteF ⟨ρ, O, F, s.same e1, (Po.later e1 p1).imp fun _ k v H2 e2 r => k v H2 (e1.trans e2) r⟩
    | _ => exact p1.elim⟩
theorem ef_not (ha : EF X E a f) : EF X E (.UnaryOp .Not a pos) (mNotV f) :=
  pe_imp (pe_not ha) fun σ H Q ⟨ρ, O, F, s, p⟩ => ⟨ρ, O, F, s, p.bind.imp fun d p1 v H1 e1 r1 => by
    cases d with
    | bl c => cases r1; exact ⟨c, rfl, p1 _ H1 e1 (.bl _)⟩
    | _ => exact p1.elim⟩
def mIf (c : Sls → Res Bool) (f g : Sls → Res D) : Sls → Res D := fun ρ => c ρ >>= fun b => if b then f ρ else g ρ
theorem ef_if {c : Expr} (hc : ET X E c tf) (ha : EF X E a f) (hb : EF X E b g) : EF X E (.IfExp c a b pos) (mIf tf f g) :=
  pe_imp (pe_ifExp hc ha hb) fun σ H Q ⟨ρ, O, F, s, p⟩ => ⟨ρ, O, F, s, p.bind.imp fun c p1 H1 e1 => by
    cases c with
    | true => exact iteT ⟨ρ, O, F, s.same e1, (Po.later e1 p1).imp fun _ k v H2 e2 r => k v H2 (e1.trans e2) r⟩
    | false => exact iteF ⟨ρ, O, F, s.same e1, (Po.later e1 p1).imp fun _ k v H2 e2 r => k v H2 (e1.trans e2) r⟩⟩
/-! ### chains a < b < c -/
def mChain (h1 h2 : D → D → Option D) (f g k : Sls → Res D) : Sls → Res D := fun ρ => f ρ >>= fun x => g ρ >>= fun y => ofO (h1 x y) >>= fun z => ofO (asB z) >>= fun b => if b then (k ρ >>= fun w => ofO (h2 y w)) else ok (.bl false)
end
end PP

namespace PP
open PySem PySem.Spec PyProof.Rows L2
open Res (ok exc bad)
section
variable {X : Cx} {E : EX} {a b c e : Expr} {f g k : Sls → Res D} {h h1 h2 : D → D → Option D} {r r' : R2} {pos : Pos}
/-! ### chains a < b < c -/
theorem chain_go {σ : L2.St} {H : Hp} {Q : VK} (hh : Op2 X.K r h1) (hh' : Op2 X.K r' h2) (hq : tEF X.K E (mChain h1 h2 f g k) σ H Q) :
    tChain r r' (tEB X.K E f) (tEB X.K E g) (tEB X.K E k) σ H Q := by
  obtain ⟨ρ, O, F, s, p⟩ := hq
  refine ⟨ρ, O, F, s, p.bind.imp fun dx p1 x H1 e1 r1 => ⟨ρ, O, F, s.same e1, (p1.bind.imp fun dy p2 y H2 e2 r2 => ?_).later e1⟩⟩
  have e12 := e1.trans e2
  refine hh H2 O x y dx dy _ (s.same e12).dom (r1.same e2) r2 ?_
  have p2' : Po X.K E σ H (ofO (h1 dx dy) >>= fun z => ofO (asB z) >>= fun b => if b then (k ρ >>= fun w => ofO (h2 dy w)) else ok (.bl false)) fun d => ∀ v H', Same H H' → Rep X.K H' O v d → Q v H' := p2
  cases q : h1 dx dy with
  | none => rw [q] at p2'; exact p2'.elim
  | some z =>
    rw [q] at p2'
    cases z with
    | bl b =>
      intro v H3 e3 rv
      cases rv
      refine ⟨b, rfl, ?_⟩
      have e13 := e12.trans e3
      cases b with
      | true =>
        refine iteT ⟨ρ, O, F, s.same e13, ((show Po X.K E σ H (k ρ >>= fun w => ofO (h2 dy w)) _ from p2').bind.imp fun dz p3 z H4 e4 r3 => ?_).later e13⟩
        exact hh' H4 O y z dy dz _ (s.same (e13.trans e4)).dom ((r2.same e3).same e4) r3 (p3.vp (e13.trans e4))
      | false => exact iteF (p2' _ H3 e13 (.bl false))
    | _ => exact p2'.elim
theorem ef_chain {op op' : CmpOp} (ho : OpR X (compareOp op) r) (ho' : OpR X (compareOp op') r') (hh : Op2 X.K r h1) (hh' : Op2 X.K r' h2) (ha : EB X E a f) (hb : EB X E b g) (hc : EB X E c k)
    (hm : lastMarks [op, op'] [b, c] = false := by with_unfolding_all rfl) : EF X E (.Compare a [op, op'] [b, c] pos) (mChain h1 h2 f g k) :=
  pe_imp (pe_chain ho ho' ha hb hc hm) fun σ H Q hq => chain_go hh hh' hq
theorem et_chain {op op' : CmpOp} (ho : OpR X (compareOp op) r) (ho' : OpR X (compareOp op') r') (hh : Op2 X.K r h1) (hh' : Op2 X.K r' h2) (ha : EB X E a f) (hb : EB X E b g) (hc : EB X E c k)
    (hm : lastMarks [op, op'] [b, c] = false := by with_unfolding_all rfl) : ET X E (.Compare a [op, op'] [b, c] pos) (mT (mChain h1 h2 f g k)) :=
  pt_imp (pt_chain ho ho' ha hb hc hm) fun σ H Q ⟨ρ, O, F, s, p⟩ => by
    refine chain_go (Q := fun x H' => ∃ k, x = V.bl k ∧ Q k H') hh hh' ⟨ρ, O, F, s, p.bind.imp fun d p1 v H1 e1 r1 => ?_⟩
    cases d with
    | bl b => cases r1; exact ⟨b, rfl, p1 H1 e1⟩
    | _ => exact p1.elim

/-! ### argument lists -/
variable {es : List Expr} {fs : List (Sls → Res D)}
def mArgs : List (Sls → Res D) → Sls → Res (List D)
  | [], _ => ok []
  | f :: fs, ρ => f ρ >>= fun x => mArgs fs ρ >>= fun xs => ok (x :: xs)
theorem mArgs_length : ∀ {fs : List (Sls → Res D)} {ρ : Sls} {ds : List D}, mArgs fs ρ = ok ds → ds.length = fs.length
  | [], _, _, h => by cases h; rfl
  | f :: fs, ρ, ds, h => by
    have h' : (f ρ >>= fun x => mArgs fs ρ >>= fun xs => ok (x :: xs)) = ok ds := h
    cases e1 : f ρ with
    | ok x =>
      rw [e1] at h'
      cases e2 : mArgs fs ρ with
      | ok xs =>
        simp [e2] at h'
        subst h'
        simp [mArgs_length e2]
      | _ => simp [e2] at h'
    | _ => rw [e1] at h'; cases h'
theorem Po.eq {K : PySem.W.Frag} {E : EX} {σ : L2.St} {H : Hp} {α : Type} {r : Res α} {P : α → Prop} (h : Po K E σ H r P) : Po K E σ H r fun a => r = ok a ∧ P a := by
  cases r with
  | ok a => exact ⟨rfl, h⟩
  | _ => exact h
theorem ea_nil : EA X E [] (mArgs []) := pa_imp pa_nil fun σ H Q ⟨ρ, O, F, s, p⟩ => p [] H (Same.refl H) .nil
theorem ea_cons (ha : EF X E e f) (hr : EA X E es (mArgs fs)) (hs : starEach (e :: es) X.env = (false, eval e X.env) :: starEach es X.env := by rfl) : EA X E (e :: es) (mArgs (f :: fs)) :=
  pa_imp (pa_cons ha hr hs) fun σ H Q ⟨ρ, O, F, s, p⟩ => ⟨ρ, O, F, s, (show Po X.K E σ H (f ρ >>= fun x => mArgs fs ρ >>= fun xs => ok (x :: xs)) _ from p).bind.imp fun dx p1 x H1 e1 r1 => ⟨ρ, O, F, s.same e1, (p1.bind.imp fun ds p2 vs H2 e2 r2 => p2 _ H2 (e1.trans e2) (.cons (r1.same e2) r2)).later e1⟩⟩
theorem RepBs.same {K : PySem.W.Frag} {H H' : Hp} {O : Addr → Prop} (e : Same H H') : ∀ {vs : List V} {ds : List D}, RepBs K H O vs ds → RepBs K H' O vs ds
  | _, _, .nil => .nil
  | _, _, .cons r t => .cons (r.same e) (RepBs.same e t)
theorem RepBs.length {K : PySem.W.Frag} {H : Hp} {O : Addr → Prop} : ∀ {vs : List V} {ds : List D}, RepBs K H O vs ds → vs.length = ds.length
  | _, _, .nil => rfl
  | _, _, .cons _ t => congrArg (· + 1) t.length
theorem ec_nil : EC X E [] (mArgs []) := pa_imp pa_nil fun σ H Q ⟨ρ, O, F, s, p⟩ => p [] H (Same.refl H) .nil
theorem ec_cons (ha : EB X E e f) (hr : EC X E es (mArgs fs)) (hs : starEach (e :: es) X.env = (false, eval e X.env) :: starEach es X.env := by rfl) : EC X E (e :: es) (mArgs (f :: fs)) :=
  pa_imp (pa_cons ha hr hs) fun σ H Q ⟨ρ, O, F, s, p⟩ => ⟨ρ, O, F, s, (show Po X.K E σ H (f ρ >>= fun x => mArgs fs ρ >>= fun xs => ok (x :: xs)) _ from p).bind.imp fun dx p1 x H1 e1 r1 => ⟨ρ, O, F, s.same e1, (p1.bind.imp fun ds p2 vs H2 e2 r2 => p2 _ H2 (e1.trans e2) (.cons (r1.same e2) r2)).later e1⟩⟩
/-! ### displays -/
theorem small_lim {n : Nat} (h : n ≤ 1000) : n ≤ sizeLine := Nat.le_trans h (by decide)
def mTup (fs : List (Sls → Res D)) : Sls → Res D := fun ρ => mArgs fs ρ >>= fun xs => ok (.tup xs)
def mLst (fs : List (Sls → Res D)) : Sls → Res D := fun ρ => mArgs fs ρ >>= fun xs => ok (.lst xs)
theorem RepN.newL {K : PySem.W.Frag} {H : Hp} {O : Addr → Prop} {p : Addr} {vs : List V} {ds : List D} (n : H p = none) (z : vs.length ≤ sizeLine) (r : Reps K H O vs ds) : RepN K (upd H p (.lst vs)) (Ad O p) (.ref p) (.lst ds) p :=
  ⟨rfl, .inr rfl, vs, upd_same, z, (r.more n).same (same_new n)⟩
theorem rep_newT {K : PySem.W.Frag} {H : Hp} {O : Addr → Prop} {p : Addr} {vs : List V} {ds : List D} (n : H p = none) (z : vs.length ≤ sizeLine) (r : Reps K H O vs ds) : Rep K (upd H p (.tup vs)) O (.ref p) (.tup ds) :=
  .tup (.of upd_same) z (r.same (same_new n))
theorem ef_tup {x1} (h : EA X E es (mArgs fs)) (hl : fs.length ≤ 1000 := by decide) : EF X E (.Tuple es x1 pos) (mTup fs) :=
  pe_imp (pe_tup h) fun σ H Q ⟨ρ, O, F, s, p⟩ => ⟨ρ, O, F, s, p.bind.eq.imp fun ds ⟨e0, p1⟩ vs H1 e1 r1 => by
    have z : vs.length ≤ sizeLine := by rw [r1.length, mArgs_length e0]; exact small_lim hl
    exact ⟨z, fun q n => p1 _ _ (e1.trans (same_new n)) (rep_newT n z r1)⟩⟩
theorem en_lst (h : EA X E es (mArgs fs)) (hl : fs.length ≤ 1000 := by decide) : EN X E (.List es pos) (mLst fs) :=
  pe_imp (pe_lst h) fun σ H Q ⟨ρ, O, F, s, p⟩ => ⟨ρ, O, F, s, p.bind.eq.imp fun ds ⟨e0, p1⟩ vs H1 e1 r1 => by
    have z : vs.length ≤ sizeLine := by rw [r1.length, mArgs_length e0]; exact small_lim hl
    exact ⟨z, fun q n => p1 _ q _ (e1.trans (same_new n)) (e1.free n) (.newL n z r1)⟩⟩

/-! ### calls of defs -/
/-- what a def promises: a pure answer | a new list -/
def spF (K : PySem.W.Frag) (f : List D → Res D) : Sp := fun vs H Q E => ∃ ds Z, Reps K H Z vs ds ∧ Dom H Z ∧ (match f ds with
  | .ok d => ∀ v H', Same H H' → Rep K H' Z v d → Q v H'
  | .exc c => ∀ H', Same H H' → E (.ref (He.ga K c)) none H'
  | .bad => False)
def spN (K : PySem.W.Frag) (f : List D → Res D) : Sp := fun vs H Q E => ∃ ds Z, Reps K H Z vs ds ∧ Dom H Z ∧ (match f ds with
  | .ok d => ∀ v a H', Same H H' → H a = none → RepN K H' (Ad Z a) v d a → Q v H'
  | .exc c => ∀ H', Same H H' → E (.ref (He.ga K c)) none H'
  | .bad => False)
def mCall (F : List D → Res D) (fs : List (Sls → Res D)) : Sls → Res D := fun ρ => mArgs fs ρ >>= F
variable {CX : CXT} {n : Nat} {fa : Addr} {fd : FuncData} {ps : List Str} {x : Str} {p : Pos} {F : List D → Res D}
theorem ef_call (G : FnOk X.prog X.w X.K X.mg X.base CX n fa fd ps (spF X.K F)) (hr : Room n X.A) (hm : X.mg x = some (.ref fa)) (hk : PySem.W.keepIn X.K (.ref fa) = true) (hb : Binds X.K fd ps []) (hx : ∀ σ, PassesAt CX X σ (E σ))
    (ha : EA X E (e :: es) (mArgs fs)) (hg : Gl X x := by rfl) (hdb : (x == ("__debug__" : Str)) = false := by decide) (he : starEach (e :: es) X.env = (false, eval e X.env) :: starEach es X.env := by rfl) (hpl : (backTo pos (starEach es X.env)).any (·.1) = false := by rfl) :
    EF X E (.Call (.Name x p) (e :: es) [] pos) (mCall F fs) :=
  pe_imp (pe_callS G hr hg hm hk hb hx ha hdb he hpl) fun σ H Q ⟨ρ, O, FF, s, p⟩ => ⟨ρ, O, FF, s, p.bind.imp fun ds p1 vs H1 e1 r1 => ⟨ds, O, r1, (s.same e1).dom, by
    cases q : F ds with
    | ok d => rw [q] at p1; exact fun v H2 e2 r2 => p1 v H2 (e1.trans e2) r2
    | exc c => rw [q] at p1; exact fun H2 e2 => p1 H2 (e1.trans e2)
    | bad => rw [q] at p1; exact p1⟩⟩
theorem en_call (G : FnOk X.prog X.w X.K X.mg X.base CX n fa fd ps (spN X.K F)) (hr : Room n X.A) (hm : X.mg x = some (.ref fa)) (hk : PySem.W.keepIn X.K (.ref fa) = true) (hb : Binds X.K fd ps []) (hx : ∀ σ, PassesAt CX X σ (E σ))
    (ha : EA X E (e :: es) (mArgs fs)) (hg : Gl X x := by rfl) (hdb : (x == ("__debug__" : Str)) = false := by decide) (he : starEach (e :: es) X.env = (false, eval e X.env) :: starEach es X.env := by rfl) (hpl : (backTo pos (starEach es X.env)).any (·.1) = false := by rfl) :
    EN X E (.Call (.Name x p) (e :: es) [] pos) (mCall F fs) :=
  pe_imp (pe_callS G hr hg hm hk hb hx ha hdb he hpl) fun σ H Q ⟨ρ, O, FF, s, p⟩ => ⟨ρ, O, FF, s, p.bind.imp fun ds p1 vs H1 e1 r1 => ⟨ds, O, r1, (s.same e1).dom, by
    cases q : F ds with
    | ok d => rw [q] at p1; exact fun v a H2 e2 n r2 => p1 v a H2 (e1.trans e2) (e1.free n) r2
    | exc c => rw [q] at p1; exact fun H2 e2 => p1 H2 (e1.trans e2)
    | bad => rw [q] at p1; exact p1⟩⟩
/-- plain: no list, no object in it -/
def D.plain : D → Bool
  | .lst _ => false
  | .kl _ => false
  | .obj _ _ => false
  | .dct _ => false
  | .tup xs => plains xs
  | _ => true
where plains : List D → Bool
  | [] => true
  | x :: xs => x.plain && plains xs
mutual
theorem Rep.plain {K : PySem.W.Frag} {H : Hp} {O O' : Addr → Prop} : ∀ {v d}, Rep K H O v d → d.plain = true → Rep K H O' v d
  | _, _, .non, _ => .non
  | _, _, .bl b, _ => .bl b
  | _, _, .int i, _ => .int i
  | _, _, .str x, _ => .str x
  | _, _, .ty n, _ => .ty n
  | _, _, .tup h z r, q => .tup h z (Reps.plain r (by simpa [D.plain] using q))
  | _, _, .lst h n z r, q => by simp [D.plain] at q
  | _, _, .kl h z r, q => by simp [D.plain] at q
  | _, _, .obj h n r, q => by simp [D.plain] at q
  | _, _, .dct h n z y r, q => by simp [D.plain] at q
theorem Reps.plain {K : PySem.W.Frag} {H : Hp} {O O' : Addr → Prop} : ∀ {vs ds}, Reps K H O vs ds → D.plain.plains ds = true → Reps K H O' vs ds
  | _, _, .nil, _ => .nil
  | _, _, .cons r t, q => by
    simp [D.plain.plains] at q
    exact .cons (Rep.plain r q.1) (Reps.plain t q.2)
end
/-- a call with arguments that are owned by the caller: the answer is plain -/
def mCallB (F : List D → Res D) (fs : List (Sls → Res D)) : Sls → Res D := fun ρ => mArgs fs ρ >>= F >>= fun d => if d.plain then ok d else bad
theorem ef_callB (G : FnOk X.prog X.w X.K X.mg X.base CX n fa fd ps (spF X.K F)) (hr : Room n X.A) (hm : X.mg x = some (.ref fa)) (hk : PySem.W.keepIn X.K (.ref fa) = true) (hb : Binds X.K fd ps []) (hx : ∀ σ, PassesAt CX X σ (E σ))
    (ha : EC X E (e :: es) (mArgs fs)) (hg : Gl X x := by rfl) (hdb : (x == ("__debug__" : Str)) = false := by decide) (he : starEach (e :: es) X.env = (false, eval e X.env) :: starEach es X.env := by rfl) (hpl : (backTo pos (starEach es X.env)).any (·.1) = false := by rfl) :
    EF X E (.Call (.Name x p) (e :: es) [] pos) (mCallB F fs) :=
  pe_imp (pe_callS G hr hg hm hk hb hx ha hdb he hpl) fun σ H Q ⟨ρ, O, FF, s, p⟩ => ⟨ρ, O, FF, s, by
    have p' : Po X.K E σ H (mArgs fs ρ >>= fun ds => F ds >>= fun d => if d.plain then ok d else bad) fun d => ∀ v H', Same H H' → Rep X.K H' O v d → Q v H' := by
      have p0 : Po X.K E σ H ((mArgs fs ρ >>= F) >>= fun d => if d.plain then ok d else bad) fun d => ∀ v H', Same H H' → Rep X.K H' O v d → Q v H' := p
      simpa only [res_assoc] using p0
    refine p'.bind.imp fun ds p1 vs H1 e1 r1 => ⟨ds, fun _ => False, r1.weak, fun _ z => z.elim, ?_⟩
    cases q : F ds with
    | ok d =>
      rw [q] at p1
      have p2 : Po X.K E σ H (if d.plain then ok d else bad) fun d => ∀ v H', Same H H' → Rep X.K H' O v d → Q v H' := p1
      cases z : d.plain with
      | true =>
        rw [z] at p2
        exact fun v H2 e2 r2 => p2 v H2 (e1.trans e2) (r2.plain z)
      | false => rw [z] at p2; exact p2.elim
    | exc c => rw [q] at p1; exact fun H2 e2 => p1 H2 (e1.trans e2)
    | bad => rw [q] at p1; exact p1⟩

/-! ### calls of built-ins -/
abbrev Cl1 (K : PySem.W.Frag) (r : List V → Hp → VK → Prop) (h : List D → Option D) : Prop := ∀ H O vs ds Q, Dom H O → RepBs K H O vs ds → VP K H O Q (h ds) → r vs H Q
abbrev Cl1N (K : PySem.W.Frag) (r : List V → Hp → VK → Prop) (h : List D → Option D) : Prop := ∀ H O vs ds Q, Dom H O → RepBs K H O vs ds → VN K H O Q (h ds) → r vs H Q
def mBI (h : List D → Option D) (fs : List (Sls → Res D)) : Sls → Res D := fun ρ => mArgs fs ρ >>= fun ds => ofO (h ds)
variable {rc : List V → Hp → VK → Prop} {hc : List D → Option D} {id T : String}
theorem ef_bi (hr : CallR X (.builtin id) rc) (hh : Cl1 X.K rc hc) (hm : X.mg x = none) (ha : EC X E (e :: es) (mArgs fs)) (hv : bootBuiltins x = some (.builtin id) := by decide +kernel) (hg : Gl X x := by rfl) (hn : x ≠ "__name__" := by decide) (hdb : (x == ("__debug__" : Str)) = false := by decide)
    (he : starEach (e :: es) X.env = (false, eval e X.env) :: starEach es X.env := by rfl) (hpl : (backTo pos (starEach es X.env)).any (·.1) = false := by rfl) : EF X E (.Call (.Name x p) (e :: es) [] pos) (mBI hc fs) :=
  pe_imp (pe_callB hr hg hm hv ha hn hdb he hpl) fun σ H Q ⟨ρ, O, FF, s, p⟩ => ⟨ρ, O, FF, s, p.bind.imp fun ds p1 vs H1 e1 r1 => hh H1 O vs ds Q (s.same e1).dom r1 (p1.vp e1)⟩
theorem ef_bt (hr : CallR X (.type T) rc) (hh : Cl1 X.K rc hc) (hm : X.mg x = none) (ha : EC X E (e :: es) (mArgs fs)) (hv : bootBuiltins x = some (.type T) := by decide +kernel) (hg : Gl X x := by rfl) (hn : x ≠ "__name__" := by decide) (hdb : (x == ("__debug__" : Str)) = false := by decide)
    (he : starEach (e :: es) X.env = (false, eval e X.env) :: starEach es X.env := by rfl) (hpl : (backTo pos (starEach es X.env)).any (·.1) = false := by rfl) : EF X E (.Call (.Name x p) (e :: es) [] pos) (mBI hc fs) :=
  pe_imp (pe_callTy hr hg hm hv ha hn hdb he hpl) fun σ H Q ⟨ρ, O, FF, s, p⟩ => ⟨ρ, O, FF, s, p.bind.imp fun ds p1 vs H1 e1 r1 => hh H1 O vs ds Q (s.same e1).dom r1 (p1.vp e1)⟩
theorem en_bi (hr : CallR X (.builtin id) rc) (hh : Cl1N X.K rc hc) (hm : X.mg x = none) (ha : EC X E (e :: es) (mArgs fs)) (hv : bootBuiltins x = some (.builtin id) := by decide +kernel) (hg : Gl X x := by rfl) (hn : x ≠ "__name__" := by decide) (hdb : (x == ("__debug__" : Str)) = false := by decide)
    (he : starEach (e :: es) X.env = (false, eval e X.env) :: starEach es X.env := by rfl) (hpl : (backTo pos (starEach es X.env)).any (·.1) = false := by rfl) : EN X E (.Call (.Name x p) (e :: es) [] pos) (mBI hc fs) :=
  pe_imp (pe_callB hr hg hm hv ha hn hdb he hpl) fun σ H Q ⟨ρ, O, FF, s, p⟩ => ⟨ρ, O, FF, s, p.bind.imp fun ds p1 vs H1 e1 r1 => hh H1 O vs ds Q (s.same e1).dom r1 (p1.vn e1)⟩
theorem en_bt (hr : CallR X (.type T) rc) (hh : Cl1N X.K rc hc) (hm : X.mg x = none) (ha : EC X E (e :: es) (mArgs fs)) (hv : bootBuiltins x = some (.type T) := by decide +kernel) (hg : Gl X x := by rfl) (hn : x ≠ "__name__" := by decide) (hdb : (x == ("__debug__" : Str)) = false := by decide)
    (he : starEach (e :: es) X.env = (false, eval e X.env) :: starEach es X.env := by rfl) (hpl : (backTo pos (starEach es X.env)).any (·.1) = false := by rfl) : EN X E (.Call (.Name x p) (e :: es) [] pos) (mBI hc fs) :=
  pe_imp (pe_callTy hr hg hm hv ha hn hdb he hpl) fun σ H Q ⟨ρ, O, FF, s, p⟩ => ⟨ρ, O, FF, s, p.bind.imp fun ds p1 vs H1 e1 r1 => hh H1 O vs ds Q (s.same e1).dom r1 (p1.vn e1)⟩

/-! ### o[i], o[i:j], o.f, text methods -/
theorem ef_ix (hr : IxR X r) (hh : Op2 X.K r h) (ha : EB X E a f) (hb : EB X E b g) (hs : PlainIx b := by exact fun _ _ => rfl) : EF X E (.Subscript a b pos) (mOp2 h f g) :=
  pe_imp (pe_ix hr ha hb hs) fun σ H Q hq => seq2 (P := fun H O d Q => ∀ v H', Same H H' → Rep X.K H' O v d → Q v H') hq fun O H1 x y dx dy e1 d1 rx ry p => hh H1 O x y dx dy Q d1 rx ry (p.vp e1)
/-- parts of a slice -/
def tEO (K : PySem.W.Frag) (E : EX) (f : Sls → Res (Option Int)) : TO := fun σ H Q => ∃ ρ O F, Sta K H O σ ρ F ∧ Po K E σ H (f ρ) fun d => ∀ H', Same H H' → Q d H'
abbrev EO (X : Cx) (E : EX) (e : Option Expr) (f : Sls → Res (Option Int)) : Prop := PO X e (tEO X.K E f)
theorem po_imp {e : Option Expr} {t t' : TO} (h : PO X e t) (i : ∀ σ H Q, t' σ H Q → t σ H Q) : PO X e t' := ⟨fun pins s σ H Q I q => h.run pins s σ H Q I (i σ H Q q)⟩
def mNoPart : Sls → Res (Option Int) := fun _ => ok none
def asI : D → Option Int
  | .int i => some i
  | _ => none
def mPart (f : Sls → Res D) : Sls → Res (Option Int) := fun ρ => f ρ >>= fun x => ofO (asI x) >>= fun i => ok (some i)
theorem eo_none : EO X E none mNoPart := po_imp po_none fun σ H Q ⟨ρ, O, F, s, p⟩ => p H (Same.refl H)
theorem eo_some (he : EF X E e f) : EO X E (some e) (mPart f) := po_imp (po_some he) fun σ H Q ⟨ρ, O, F, s, p⟩ => ⟨ρ, O, F, s, p.bind.imp fun d p1 v H1 e1 r1 => by
  cases d with
  | int i => cases r1; exact ⟨i, rfl, p1 H1 e1⟩
  | _ => exact p1.elim⟩
abbrev Sl3 (K : PySem.W.Frag) (r : V → Option Int → Option Int → Hp → VK → Prop) (h : D → Option Int → Option Int → Option D) : Prop := ∀ H O x dx lo hi Q, Dom H O → RepB K H O x dx → VP K H O Q (h dx lo hi) → r x lo hi H Q
abbrev Sl3N (K : PySem.W.Frag) (r : V → Option Int → Option Int → Hp → VK → Prop) (h : D → Option Int → Option Int → Option D) : Prop := ∀ H O x dx lo hi Q, Dom H O → RepB K H O x dx → VN K H O Q (h dx lo hi) → r x lo hi H Q
def mSl (h : D → Option Int → Option Int → Option D) (f : Sls → Res D) (l u : Sls → Res (Option Int)) : Sls → Res D := fun ρ => f ρ >>= fun x => l ρ >>= fun lo => u ρ >>= fun hi => ofO (h x lo hi)
variable {rs : V → Option Int → Option Int → Hp → VK → Prop} {h3 : D → Option Int → Option Int → Option D} {lo hi : Option Expr} {l u : Sls → Res (Option Int)} {p2 : Pos}
theorem ef_sl (hr : SlR X rs) (hh : Sl3 X.K rs h3) (ha : EB X E a f) (hl : EO X E lo l) (hu : EO X E hi u) : EF X E (.Subscript a (.Slice lo hi none p2) pos) (mSl h3 f l u) :=
  pe_imp (pe_slice hr ha hl hu) fun σ H Q ⟨ρ, O, F, s, p⟩ => ⟨ρ, O, F, s, p.bind.imp fun dx p1 x H1 e1 r1 => ⟨ρ, O, F, s.same e1, (p1.bind.imp fun lo p2 H2 e2 => ⟨ρ, O, F, s.same (e1.trans e2), (p2.bind.imp fun hi p3 H3 e3 =>
    hh H3 O x dx lo hi Q (s.same ((e1.trans e2).trans e3)).dom ((r1.same e2).same e3) (p3.vp ((e1.trans e2).trans e3))).later (e1.trans e2)⟩).later e1⟩⟩
theorem en_sl (hr : SlR X rs) (hh : Sl3N X.K rs h3) (ha : EB X E a f) (hl : EO X E lo l) (hu : EO X E hi u) : EN X E (.Subscript a (.Slice lo hi none p2) pos) (mSl h3 f l u) :=
  pe_imp (pe_slice hr ha hl hu) fun σ H Q ⟨ρ, O, F, s, p⟩ => ⟨ρ, O, F, s, p.bind.imp fun dx p1 x H1 e1 r1 => ⟨ρ, O, F, s.same e1, (p1.bind.imp fun lo p2 H2 e2 => ⟨ρ, O, F, s.same (e1.trans e2), (p2.bind.imp fun hi p3 H3 e3 =>
    hh H3 O x dx lo hi Q (s.same ((e1.trans e2).trans e3)).dom ((r1.same e2).same e3) (p3.vn ((e1.trans e2).trans e3))).later (e1.trans e2)⟩).later e1⟩⟩
def fld (fn : Str) : D → Option D
  | .obj _ gs => gs.lookup fn
  | _ => none
theorem RepFs.look {K : PySem.W.Frag} {H : Hp} {O : Addr → Prop} {fn : Str} : ∀ {fs gs} {d : D}, RepFs K H O fs gs → gs.lookup fn = some d → ∃ v, fs.lookup fn = some v ∧ Rep K H O v d
  | _, _, _, .nil, e => by simp at e
  | _, _, _, .cons (x := y) r t, e => by
    rw [List.lookup_cons] at e ⊢
    split at e
    · simp at e
      subst e
      exact ⟨_, rfl, r⟩
    · exact t.look e
/-- what the written part says of a class's fields -/
def FldOk (K : PySem.W.Frag) (fn : Str) (c : Str) : Prop := Cls K (He.ga K c) ∧ NoAttr K (He.ga K c) fn
def mFld (cs : List Str) (fn : Str) (f : Sls → Res D) : Sls → Res D := fun ρ => f ρ >>= fun x => match x with
  | .obj c gs => if c ∈ cs then ofO (gs.lookup fn) else bad
  | _ => bad
theorem ef_fld {cs : List Str} {fn : Str} (hk : ∀ c ∈ cs, FldOk X.K fn c) (ha : EB X E e f) (hb : attributeBase e fn X.env (eval e X.env) = eval e X.env := by rfl) : EF X E (.Attribute e fn pos) (mFld cs fn f) :=
  pe_imp (pe_fld ha hb) fun σ H Q ⟨ρ, O, F, s, p⟩ => ⟨ρ, O, F, s, p.bind.imp fun d p1 v H1 e1 r1 => by
    cases d with
    | obj c gs =>
      by_cases hc : c ∈ cs
      · have p1' : Po X.K E σ H (ofO (gs.lookup fn)) fun d => ∀ v H', Same H H' → Rep X.K H' O v d → Q v H' := by
          simp only [hc, if_true] at p1
          exact p1
        cases q : gs.lookup fn with
        | none => rw [q] at p1'; exact p1'.elim
        | some d' =>
          rw [q] at p1'
          obtain ⟨a, dx, fs, ev, h1, rf⟩ := r1.obj
          obtain ⟨v', e2, r2⟩ := rf.look q
          exact ⟨a, _, dx, fs, v', ev, h1, (hk c hc).1, (hk c hc).2, e2, p1' v' H1 e1 r2⟩
      · simp only [hc, if_false] at p1
        exact p1.elim
    | _ => exact p1.elim⟩
/-! ### methods of texts -/
theorem pe_m1' {id : String} {name : Str} {apos pos : Pos} {o : Expr} {to te : TE} {r : V → List V → Hp → VK → Prop} (slot : Slot "str" name id) (ty : typeOf (.builtin id) = pure (.type "method_descriptor")) (rule : MtR X id r) (ho : PE X o to) (he : PE X e te)
    (hs : starEach [e] X.env = [(false, eval e X.env)] := by rfl) (hbase : attributeBase o name X.env (eval o X.env) = eval o X.env := by rfl) (hline : (apos.endLine == pos.line) = true := by rfl) :
    PE X (.Call (.Attribute o name apos) [e] [] pos) (tM1 r to te) := pe_m1 slot ty rule ho he hs hbase hline
abbrev Mt1 (K : PySem.W.Frag) (r : V → List V → Hp → VK → Prop) (h : D → D → Option D) : Prop := ∀ H O x y dx dy Q, Dom H O → RepB K H O x dx → RepB K H O y dy → VP K H O Q (h dx dy) → r x [y] H Q
def isS : D → Bool
  | .str _ => true
  | _ => false
def mM1 (h : D → D → Option D) (f g : Sls → Res D) : Sls → Res D := fun ρ => f ρ >>= fun x => (if isS x then ok x else bad) >>= fun _ => g ρ >>= fun y => ofO (h x y)
theorem ef_m1 {id : String} {name : Str} {apos pos : Pos} {o : Expr} {r : V → List V → Hp → VK → Prop} (slot : Slot "str" name id) (ty : typeOf (.builtin id) = pure (.type "method_descriptor")) (rule : MtR X id r) (hh : Mt1 X.K r h) (ho : EB X E o f) (he : EB X E e g)
    (hs : starEach [e] X.env = [(false, eval e X.env)] := by rfl) (hbase : attributeBase o name X.env (eval o X.env) = eval o X.env := by rfl) (hline : (apos.endLine == pos.line) = true := by rfl) :
    EF X E (.Call (.Attribute o name apos) [e] [] pos) (mM1 h f g) :=
  pe_imp (pe_m1 slot ty rule ho he hs hbase hline) fun σ H Q ⟨ρ, O, F, s, p⟩ => ⟨ρ, O, F, s, p.bind.imp fun dx p1 x H1 e1 r1 => by
    cases dx with
    | str z =>
      have ex := r1.str
      subst ex
      refine ⟨⟨z, rfl⟩, ρ, O, F, s.same e1, ((show Po X.K E σ H (g ρ >>= fun y => ofO (h (.str z) y)) _ from p1).bind.imp fun dy p2 y H2 e2 r2 => ?_).later e1⟩
      exact hh H2 O _ y _ dy Q (s.same (e1.trans e2)).dom (r1.same e2) r2 (p2.vp (e1.trans e2))
    | _ => exact p1.elim⟩
end
end PP

namespace PP
open PySem PySem.Spec PyProof.Rows L2
open Res (ok exc bad)

/-! ### comprehensions -/
/-- one turn: a kept item, or none -/
def compL (step : D → Res (Option D)) : List D → Res (List D)
  | [] => ok []
  | x :: xs => (step x).quiet >>= fun r => compL step xs >>= fun ys => ok (match r with | some y => y :: ys | none => ys)
/-- what is walked -/
def wipeS (ρ : Sls) : List Nat → Sls
  | [] => ρ
  | v :: vs => (wipeS ρ vs).set v .no
theorem Sta.wipe {K : PySem.W.Frag} {H : Hp} {O : Addr → Prop} {σ : L2.St} {ρ : Sls} {F : List Addr} (s : Sta K H O σ ρ F) : ∀ vs : List Nat, ∃ F', Sta K H O (L2.wipe σ vs) (wipeS ρ vs) F'
  | [] => ⟨F, s⟩
  | v :: vs => by
    obtain ⟨F', s'⟩ := Sta.wipe s vs
    obtain ⟨F2, h1, _⟩ := s'.st.setN v none
    exact ⟨F2, h1, s'.dom⟩
/-- targets: what a value, stored, makes of the slots (all pure) -/
abbrev TgF := D → Sls → Res Sls
def tgName (i : Nat) : TgF := fun d ρ => ok (ρ.set i (.fz d))
def tgsNil : List D → Sls → Res Sls
  | [], ρ => ok ρ
  | _, _ => bad
def tgsCons (t : TgF) (u : List D → Sls → Res Sls) : List D → Sls → Res Sls
  | d :: ds, ρ => t d ρ >>= fun ρ' => u ds ρ'
  | [], _ => bad
def tgTup (n : Nat) (t : List D → Sls → Res Sls) : TgF
  | .tup ds, ρ => if ds.length = n then t ds ρ else bad
  | _, _ => bad
/-- the stored state is to reach -/
def Go (K : PySem.W.Frag) (H : Hp) (O : Addr → Prop) (F : List Addr) (Q : L2.St → Hp → Prop) : Res Sls → Prop
  | .ok ρ' => ∀ σ' F', Sta K H O σ' ρ' F' → (∀ a ∈ F', a ∈ F) → Q σ' H
  | _ => False
theorem Go.bind {K : PySem.W.Frag} {H : Hp} {O : Addr → Prop} {F : List Addr} {Q : L2.St → Hp → Prop} {r : Res Sls} {k : Sls → Res Sls} (h : Go K H O F Q (r >>= k)) : ∃ ρ', r = ok ρ' ∧ ∀ F', (∀ a ∈ F', a ∈ F) → Go K H O F' Q (k ρ') := by
  cases r with
  | ok ρ' =>
    refine ⟨ρ', rfl, fun F' sub => ?_⟩
    have h' : Go K H O F Q (k ρ') := h
    cases q : k ρ' with
    | ok ρ2 => rw [q] at h'; exact fun σ2 F2 s2 sub2 => h' σ2 F2 s2 fun a ha => sub a (sub2 a ha)
    | exc c => rw [q] at h'; exact h'.elim
    | bad => rw [q] at h'; exact h'.elim
  | exc c => exact h.elim
  | bad => exact h.elim
/-- a target's rule; it stores in the slots vs alone -/
structure TG (K : PySem.W.Frag) (g : L2.TG) (t : TgF) (vs : List Nat) : Prop where
  run : ∀ H O v d σ ρ F (Q : L2.St → Hp → Prop), Sta K H O σ ρ F → Rep K H O v d → Go K H O F Q (t d ρ) → g v σ H Q
  own : ∀ v σ H Q, g v σ H Q → g v σ H fun σ2 H2 => (∀ j, j ∉ vs → σ2[j]? = σ[j]?) ∧ σ2.length = σ.length ∧ Q σ2 H2
  mono : ∀ v σ H (Q Q' : L2.St → Hp → Prop), (∀ σ H, Q σ H → Q' σ H) → g v σ H Q → g v σ H Q'
structure TGs (K : PySem.W.Frag) (g : L2.TGs) (t : List D → Sls → Res Sls) (vs : List Nat) : Prop where
  run : ∀ H O us ds σ ρ F (Q : L2.St → Hp → Prop), Sta K H O σ ρ F → Reps K H O us ds → Go K H O F Q (t ds ρ) → g us σ H Q
  own : ∀ us σ H Q, g us σ H Q → g us σ H fun σ2 H2 => (∀ j, j ∉ vs → σ2[j]? = σ[j]?) ∧ σ2.length = σ.length ∧ Q σ2 H2
  mono : ∀ v σ H (Q Q' : L2.St → Hp → Prop), (∀ σ H, Q σ H → Q' σ H) → g v σ H Q → g v σ H Q'
theorem tg_name {K : PySem.W.Frag} (i : Nat) {vs : List Nat} (hi : i ∈ vs := by decide) : TG K (gName i) (tgName i) vs := by
  refine ⟨fun H O v d σ ρ F Q s r h => ?_, fun v σ H Q h => ⟨fun j hj => ?_, by simp, h⟩, fun v σ H Q Q' m h => m _ _ h⟩
  · obtain ⟨F', h1, h2⟩ := RSt.setF r i s.st
    exact h _ F' ⟨h1, s.dom⟩ h2
  · exact List.getElem?_set_ne (fun e => hj (by rw [← e]; exact hi))
theorem tgs_nil {K : PySem.W.Frag} {vs : List Nat} : TGs K gNil tgsNil vs := by
  refine ⟨fun H O us ds σ ρ F Q s r h => ?_, fun us σ H Q h => ⟨h.1, fun j _ => rfl, rfl, h.2⟩, fun us σ H Q Q' m h => ⟨h.1, m _ _ h.2⟩⟩
  cases r with
  | nil => exact ⟨rfl, h σ F s fun _ q => q⟩
  | cons _ _ => exact h.elim
theorem tgs_cons {K : PySem.W.Frag} {g : L2.TG} {t : TgF} {gs : L2.TGs} {ts : List D → Sls → Res Sls} {vs : List Nat} (h1 : TG K g t vs) (h2 : TGs K gs ts vs) : TGs K (gCons g gs) (tgsCons t ts) vs := by
  refine ⟨fun H O us ds σ ρ F Q s r h => ?_, fun us σ H Q h => ?_, fun us σ H Q Q' m h => ?_⟩
  · cases r with
    | nil => exact h.elim
    | @cons v d us ds rv rs =>
      obtain ⟨ρ', e, k⟩ := Go.bind (show Go K H O F Q (t d ρ >>= fun ρ' => ts ds ρ') from h)
      refine ⟨v, us, rfl, h1.run H O v d σ ρ F _ s rv ?_⟩
      rw [e]
      exact fun σ' F' s' sub => h2.run H O us ds σ' ρ' F' Q s' rs (k F' sub)
  · obtain ⟨v, r, e, h⟩ := h
    refine ⟨v, r, e, h1.mono _ _ _ _ _ (fun σ1 H1 ⟨a1, l1, q1⟩ => ?_) (h1.own v σ H _ h)⟩
    exact h2.mono _ _ _ _ _ (fun σ2 H2 ⟨a2, l2, q2⟩ => ⟨fun j hj => (a2 j hj).trans (a1 j hj), l2.trans l1, q2⟩) (h2.own r σ1 H1 Q q1)
  · obtain ⟨v, r, e, h⟩ := h
    exact ⟨v, r, e, h1.mono _ _ _ _ _ (fun σ1 H1 q1 => h2.mono _ _ _ _ _ m q1) h⟩
theorem tg_tup {K : PySem.W.Frag} {n : Nat} {gs : L2.TGs} {ts : List D → Sls → Res Sls} {vs : List Nat} (h1 : TGs K gs ts vs) : TG K (gTup K n gs) (tgTup n ts) vs := by
  refine ⟨fun H O v d σ ρ F Q s r h => ?_, fun v σ H Q h => ?_, fun v σ H Q Q' m h => ?_⟩
  · cases r with
    | tup hs z rs =>
      rename_i ds
      unfold tgTup at h
      by_cases e : ds.length = n
      · simp only [e, if_true] at h
        exact ⟨_, _, rfl, hs, by rw [rs.length]; exact e, h1.run H O _ _ σ ρ F Q s rs h⟩
      · simp only [e, if_false] at h
        exact h.elim
    | _ => exact h.elim
  · obtain ⟨a, xs, e1, e2, e3, h⟩ := h
    exact ⟨a, xs, e1, e2, e3, h1.own _ _ _ _ h⟩
  · obtain ⟨a, xs, e1, e2, e3, h⟩ := h
    exact ⟨a, xs, e1, e2, e3, h1.mono _ _ _ _ _ m h⟩
theorem wipe_get {σ : L2.St} {j : Nat} : ∀ {vs : List Nat}, (L2.wipe σ vs)[j]? = if j ∈ vs then (σ[j]?).map (fun _ => none) else σ[j]?
  | [] => by simp [L2.wipe]
  | v :: vs => by
    unfold L2.wipe
    by_cases e : v = j
    · subst e
      have hl := L2.wipe_length σ vs
      by_cases hj : v < (L2.wipe σ vs).length
      · rw [List.getElem?_set_self hj]
        rw [hl] at hj
        simp [hj]
      · rw [List.getElem?_eq_none (by simpa using hj)]
        rw [hl] at hj
        simp [List.getElem?_eq_none (Nat.le_of_not_lt hj)]
    · rw [List.getElem?_set_ne e, wipe_get (vs := vs)]
      have e' : j ≠ v := Ne.symm e
      simp [e']
theorem wipe_of {σ σ2 : L2.St} {vs : List Nat} (h : ∀ j, j ∉ vs → σ2[j]? = (L2.wipe σ vs)[j]?) (l : σ2.length = (L2.wipe σ vs).length) : L2.wipe σ2 vs = L2.wipe σ vs := by
  apply List.ext_getElem?
  intro j
  rw [wipe_get, wipe_get]
  by_cases hj : j ∈ vs
  · simp only [hj, if_true]
    rw [L2.wipe_length] at l
    by_cases hl : j < σ.length
    · simp [hl, l]
    · simp [List.getElem?_eq_none (Nat.le_of_not_lt hl), List.getElem?_eq_none (show σ2.length ≤ j by omega)]
  · simp only [hj, if_false]
    rw [h j hj, wipe_get]
    simp [hj]

/-! ### what is walked -/
def Later (H : Hp) (O : Addr → Prop) (H' : Hp) (O' : Addr → Prop) : Prop := ∀ a o, H a = some o → ¬ O a → H' a = some o ∧ ¬ O' a
section
variable {K : PySem.W.Frag} {H H' : Hp} {O O' : Addr → Prop} {a : Addr}
theorem Later.rd {u : HO} (l : Later H O H' O') (h : Rd H a u) (n : ¬ O a) : Rd H' a u ∧ ¬ O' a := by
  rcases h with h | ⟨o, h⟩
  · exact ⟨.inl (l _ _ h n).1, (l _ _ h n).2⟩
  · exact ⟨.inr ⟨o, (l _ _ h n).1⟩, (l _ _ h n).2⟩
theorem Later.sqf {xs : List V} (l : Later H O H' O') (h : SqF K H O a xs) : SqF K H' O' a xs := by
  rcases h with ⟨h, n⟩ | h
  · exact .inl (l.rd h n)
  · exact .inr h
theorem Later.sqt {xs : List V} (d : Dom H O) (l : Later H O H' O') (h : SqT K H a xs) : SqT K H' a xs := by
  rcases h with h | h
  · exact .inl (l.rd h fun z => (d a z).2 xs h).1
  · exact .inr h
mutual
theorem Rep.later (d : Dom H O) (l : Later H O H' O') : ∀ {v x}, Rep K H O v x → Rep K H' O' v x
  | _, _, .non => .non
  | _, _, .bl b => .bl b
  | _, _, .int i => .int i
  | _, _, .str x => .str x
  | _, _, .ty n => .ty n
  | _, _, .tup h z r => .tup (l.sqt d h) z (Reps.later d l r)
  | _, _, .lst h n z r => .lst (l.rd h n).1 (l.rd h n).2 z (Reps.later d l r)
  | _, _, .kl h z r => .kl (l.sqf h) z (Reps.later d l r)
  | _, _, .obj h n r => .obj (l _ _ h n).1 (l _ _ h n).2 (RepFs.later d l r)
  | _, _, .dct h n z q r => .dct (l _ _ h n).1 (l _ _ h n).2 z q (RepKs.later d l r)
theorem Reps.later (d : Dom H O) (l : Later H O H' O') : ∀ {v x}, Reps K H O v x → Reps K H' O' v x
  | _, _, .nil => .nil
  | _, _, .cons r t => .cons (Rep.later d l r) (Reps.later d l t)
theorem RepFs.later (d : Dom H O) (l : Later H O H' O') : ∀ {v x}, RepFs K H O v x → RepFs K H' O' v x
  | _, _, .nil => .nil
  | _, _, .cons r t => .cons (Rep.later d l r) (RepFs.later d l t)
theorem RepKs.later (d : Dom H O) (l : Later H O H' O') : ∀ {v x}, RepKs K H O v x → RepKs K H' O' v x
  | _, _, .nil => .nil
  | _, _, .cons r k u s t => .cons (Rep.later d l r) k u (Rep.later d l s) (RepKs.later d l t)
end
theorem Tr.later {F F' : List Addr} {σ : L2.St} {ρ : Sls} (s : Sta K H O σ ρ F) (t : Tr H O F H' O' F') : Later H O H' O' := fun a o h n =>
  ⟨t.keep a o h fun z => n (s.st.owned a z).1, fun z => (t.back a z).elim n fun q => by rw [h] at q; cases q⟩
theorem Later.refl : Later H O H O := fun _ _ h n => ⟨h, n⟩
theorem Later.same (e : Same H H') : Later H O H' O := fun a o h n => ⟨e a o h, n⟩
theorem Later.trans {H2 : Hp} {O2 : Addr → Prop} (x : Later H O H' O') (y : Later H' O' H2 O2) : Later H O H2 O2 := fun a o h n => y a o (x a o h n).1 (x a o h n).2
end
/-- the iterator J gives the items, as long as what is not owned stands -/
def Wk (K : PySem.W.Frag) (J : It) (items : List D) (H : Hp) (O : Addr → Prop) : Prop := ∀ H2 O2, Later H O H2 O2 → ∀ i,
  (∀ d, items[i]? = some d → J.go i H2 ∧ ∀ x H3, J.yld i H2 x H3 → Same H2 H3 ∧ Rep K H3 O2 x d) ∧ (items.length ≤ i → J.stop i H2)
def tEI (K : PySem.W.Frag) (E : EX) (f : Sls → Res (List D)) : TI := fun σ H R => ∃ ρ O F, Sta K H O σ ρ F ∧ Po K E σ H (f ρ) fun ds => ∀ J H', Same H H' → ds.length ≤ sizeLine → Wk K J ds H' O → R J H'
abbrev EI (X : Cx) (E : EX) (tg iter : Expr) (f : Sls → Res (List D)) : Prop := PI X tg iter (tEI X.K E f)
theorem big_line : 4000000 ≤ sizeLine := by rw [sizeLine_eq]; decide
section
variable {K : PySem.W.Frag} {H : Hp} {O : Addr → Prop} {a : Addr} {vs : List V} {ds : List D}
theorem wk_list (d : Dom H O) (h : SqF K H O a vs) (r : Reps K H O vs ds) : Wk K (Itl K a) ds H O := by
  intro H2 O2 l i
  have h2 := (l.sqf h).sql
  have r2 := r.later d l
  refine ⟨fun x e => ?_, fun hi => ⟨vs, h2, by rw [r.length]; exact hi⟩⟩
  obtain ⟨v, e1, rv⟩ := r2.get e
  refine ⟨⟨vs, v, h2, e1⟩, fun y H3 hy => ?_⟩
  obtain ⟨e3, hy⟩ := hy
  subst e3
  have e4 := hy vs h2
  rw [e1] at e4
  cases e4
  exact ⟨Same.refl _, rv⟩
theorem wk_tup (d : Dom H O) (h : SqT K H a vs) (r : Reps K H O vs ds) : Wk K (Itt K a) ds H O := by
  intro H2 O2 l i
  have h2 := l.sqt d h
  have r2 := r.later d l
  refine ⟨fun x e => ?_, fun hi => ⟨vs, h2, by rw [r.length]; exact hi⟩⟩
  obtain ⟨v, e1, rv⟩ := r2.get e
  refine ⟨⟨vs, v, h2, e1⟩, fun y H3 hy => ?_⟩
  obtain ⟨e3, hy⟩ := hy
  subst e3
  have e4 := hy vs h2
  rw [e1] at e4
  cases e4
  exact ⟨Same.refl _, rv⟩
/-- the signs of a text -/
def signs (z : Str) : List D := z.cps.toList.map fun c => .str ⟨#[c]⟩
theorem wk_str (z : Str) : Wk K (Its z) (signs z) H O := by
  intro H2 O2 l i
  refine ⟨fun x e => ?_, fun hi => by show z.cps.size ≤ i; simpa [signs] using hi⟩
  unfold signs at e
  rw [List.getElem?_map] at e
  cases q : z.cps.toList[i]? with
  | none => rw [q] at e; cases e
  | some c =>
    rw [q] at e
    cases e
    have q' : z.cps[i]? = some c := by simpa using q
    refine ⟨?_, fun y H3 hy => ?_⟩
    · show i < z.cps.size
      exact (Array.getElem?_eq_some_iff.mp q').1
    · obtain ⟨e3, c', e4, e5⟩ := hy
      subst e3 e5
      rw [q'] at e4
      cases e4
      exact ⟨Same.refl _, .str _⟩
def rangeD (lo : Int) (n : Nat) : List D := (List.range n).map fun i : Nat => .int (lo + (i : Int))
theorem wk_range (lo : Int) (n : Nat) : Wk K (Itr lo n) (rangeD lo n) H O := by
  intro H2 O2 l i
  refine ⟨fun x e => ?_, fun hi => by show n ≤ i; simpa [rangeD] using hi⟩
  unfold rangeD at e
  rw [List.getElem?_map] at e
  by_cases hi : i < n
  · rw [List.getElem?_range hi] at e
    cases e
    refine ⟨hi, fun y H3 hy => ?_⟩
    obtain ⟨e3, e4⟩ := hy
    subst e3 e4
    exact ⟨Same.refl _, .int _⟩
  · rw [List.getElem?_eq_none (by simpa using hi)] at e
    cases e
end
section
variable {X : Cx} {E : EX} {e tg : Expr} {f g : Sls → Res D}
theorem pi_imp {t t' : TI} (h : PI X tg e t) (i : ∀ σ H Q, t' σ H Q → t σ H Q) : PI X tg e t' := ⟨fun pins s σ H Q I q => h.run pins s σ H Q I (i σ H Q q)⟩
/-- a list, a tuple or a text -/
def iAny (K : PySem.W.Frag) (te : TE) : TI := fun σ H R => te σ H fun x H1 => (∃ a xs, x = .ref a ∧ SqL K H1 a xs ∧ R (Itl K a) H1) ∨ (∃ a xs, x = .ref a ∧ SqT K H1 a xs ∧ R (Itt K a) H1) ∨ (∃ z, x = .str z ∧ R (Its z) H1)
theorem pi_any {te : TE} (he : PE X e te) : PI X tg e (iAny X.K te) := by
  refine ⟨fun pins s σ H R I h => ?_⟩
  refine thn (he.run pins s σ H _ I h) fun v s1 ⟨x, H1, I1, r1, q1⟩ => ?_
  have one : ∀ {wi : TI}, (PI X tg e wi → False) → True := fun _ => trivial
  rcases q1 with ⟨a, xs, e1, hq, q⟩ | ⟨a, xs, e1, hq, q⟩ | ⟨z, e1, q⟩
  · subst e1
    cases r1
    obtain ⟨its, rv, p, hz⟩ := I1.list hq
    refine wpAny_pyIter_list p.isList ?_
    refine ⟨s1.heap.objs.size, [s1.heap.objs.size], _, _, H1, rfl, I1.kept (t' := s1.toks) fun b o e => Heap.get?_push_of_some _ e, turn_list a _, ⟨_, Heap.get?_push_size _ rfl, rfl, rfl⟩, fun b hb => ?_, q⟩
    have e : b = s1.heap.objs.size := by simpa using hb
    subst e
    exact I1.fpOk (Nat.le_refl _) (I1.hok.fresh (Nat.le_refl _))
  · subst e1
    cases r1
    obtain ⟨its, rv, p, hz⟩ := I1.tuple hq
    refine wpAny_pyIter_tuple (show s1.heap.IsTuple a its.toArray from p) ?_
    refine ⟨s1.heap.objs.size, [s1.heap.objs.size], _, _, H1, rfl, I1.kept (t' := s1.toks) fun b o e => Heap.get?_push_of_some _ e, turn_tuple a _, ⟨_, Heap.get?_push_size _ rfl, rfl, rfl⟩, fun b hb => ?_, q⟩
    have e : b = s1.heap.objs.size := by simpa using hb
    subst e
    exact I1.fpOk (Nat.le_refl _) (I1.hok.fresh (Nat.le_refl _))
  · subst e1
    obtain ⟨t, rfl⟩ := r1
    cases ha : z.cps.all (· < 128)
    · exact wpAny_pyIter_wide ha (pi_one (tk := s1.toks) I1 _ (turn_str _ z t "str_iterator" (.inr rfl)) ⟨_, Heap.get?_push_size _ rfl, rfl, rfl⟩ q)
    · exact wpAny_pyIter_ascii ha (pi_one (tk := s1.toks) I1 _ (turn_str _ z t "str_ascii_iterator" (.inl rfl)) ⟨_, Heap.get?_push_size _ rfl, rfl, rfl⟩ q)
def items : D → Option (List D)
  | .lst ds => some ds
  | .kl ds => some ds
  | .tup ds => some ds
  | .str z => if z.cps.size ≤ 1000000 then some (signs z) else none
  | _ => none
def mIt (f : Sls → Res D) : Sls → Res (List D) := fun ρ => f ρ >>= fun d => ofO (items d)
theorem ei_any (he : EF X E e f) : EI X E tg e (mIt f) := pi_imp (pi_any he) fun σ H R ⟨ρ, O, F, s, p⟩ => ⟨ρ, O, F, s, p.bind.imp fun d p1 v H1 e1 r1 => by
  have dm := (s.same e1).dom
  cases d with
  | lst ds =>
    cases r1 with
    | lst h n z r => exact .inl ⟨_, _, rfl, .inl h, p1 _ H1 e1 (by rw [← r.length]; exact z) (wk_list dm (.inl ⟨h, n⟩) r)⟩
  | kl ds =>
    cases r1 with
    | kl h z r => exact .inl ⟨_, _, rfl, h.sql, p1 _ H1 e1 (by rw [← r.length]; exact z) (wk_list dm h r)⟩
  | tup ds =>
    cases r1 with
    | tup h z r => exact .inr (.inl ⟨_, _, rfl, h, p1 _ H1 e1 (by rw [← r.length]; exact z) (wk_tup dm h r)⟩)
  | str x =>
    cases r1
    unfold items at p1
    by_cases hx : x.cps.size ≤ 1000000
    · simp only [hx, if_true] at p1
      exact .inr (.inr ⟨x, rfl, p1 _ H1 e1 (by simp [signs]; exact Nat.le_trans hx (Nat.le_trans (by decide) big_line)) (wk_str x)⟩)
    · simp only [hx, if_false] at p1
      exact p1.elim
  | _ => exact p1.elim⟩
def rng1 : List D → Option (List D)
  | [.int j] => if j ≤ 1000000 ∧ -1000000 ≤ j then some (rangeD 0 j.toNat) else none
  | _ => none
def rng2 : List D → Option (List D)
  | [.int i, .int j] => if (j ≤ 1000000 ∧ -1000000 ≤ j) ∧ (i ≤ 1000000 ∧ -1000000 ≤ i) then some (rangeD i (j - i).toNat) else none
  | _ => none
def mRng (h : List D → Option (List D)) (fs : List (Sls → Res D)) : Sls → Res (List D) := fun ρ => mArgs fs ρ >>= fun ds => ofO (h ds)
variable {a b : Expr} {fs : List (Sls → Res D)} {p pos : Pos}
theorem ei_range1 (hm : X.mg "range" = none) (ha : EA X E [a] (mArgs fs)) (hg : Gl X "range" := by rfl) (hs : starEach [a] X.env = [(false, eval a X.env)] := by rfl) : EI X E tg (.Call (.Name "range" p) [a] [] pos) (mRng rng1 fs) :=
  pi_imp (pi_range1 hg hm ha hs) fun σ H R ⟨ρ, O, F, s, p⟩ => ⟨ρ, O, F, s, p.bind.imp fun ds p1 vs H1 e1 r1 => by
    unfold rng1 at p1
    split at p1
    · rename_i j
      by_cases hj : j ≤ 1000000 ∧ -1000000 ≤ j
      · simp only [hj, and_self, if_true] at p1
        cases r1 with
        | cons r t =>
          cases r
          cases t
          exact ⟨j, rfl, by omega, by omega, p1 _ H1 e1 (by rw [show (rangeD 0 j.toNat).length = j.toNat from by simp [rangeD]]; exact Nat.le_trans (by omega : j.toNat ≤ 4000000) big_line) (wk_range 0 _)⟩
      · simp only [hj, if_false] at p1
        exact p1.elim
    · exact p1.elim⟩
theorem ei_range2 (hm : X.mg "range" = none) (ha : EA X E [a, b] (mArgs fs)) (hg : Gl X "range" := by rfl) (hs : starEach [a, b] X.env = [(false, eval a X.env), (false, eval b X.env)] := by rfl) (hs2 : starEach [b] X.env = [(false, eval b X.env)] := by rfl) :
    EI X E tg (.Call (.Name "range" p) [a, b] [] pos) (mRng rng2 fs) :=
  pi_imp (pi_range2 hg hm ha hs hs2) fun σ H R ⟨ρ, O, F, s, p⟩ => ⟨ρ, O, F, s, p.bind.imp fun ds p1 vs H1 e1 r1 => by
    unfold rng2 at p1
    split at p1
    · rename_i i j
      by_cases hj : (j ≤ 1000000 ∧ -1000000 ≤ j) ∧ (i ≤ 1000000 ∧ -1000000 ≤ i)
      · simp only [hj, and_self, if_true] at p1
        cases r1 with
        | cons r t =>
          cases r
          cases t with
          | cons r t =>
            cases r
            cases t
            exact ⟨i, j, rfl, by omega, p1 _ H1 e1 (by rw [show (rangeD i (j - i).toNat).length = (j - i).toNat from by simp [rangeD]]; exact Nat.le_trans (by omega : (j - i).toNat ≤ 4000000) big_line) (wk_range i _)⟩
      · simp only [hj, if_false] at p1
        exact p1.elim
    · exact p1.elim⟩
/-! ### comprehensions -/
abbrev E0' : EX := fun _ _ _ _ => False
/-- the tests of a clause -/
abbrev ETs (X : Cx) (E : EX) (es : List Expr) (f : Sls → Res Bool) : Prop := PTs X es (tET X.K E f)
def mYes : Sls → Res Bool := fun _ => ok true
theorem pts_imp {es : List Expr} {t t' : TT} (h : PTs X es t) (i : ∀ σ H Q, t' σ H Q → t σ H Q) : PTs X es t' := ⟨fun pins s σ H Q I q => h.run pins s σ H Q I (i σ H Q q)⟩
theorem ets_nil : ETs X E [] mYes := pts_imp pts_nil fun σ H Q ⟨ρ, O, F, s, p⟩ => p H (Same.refl H)
theorem ets_one {c : Expr} {t : Sls → Res Bool} (h : ET X E c t) : ETs X E [c] t := pts_one h
def lcStep (vs : List Nat) (t : TgF) (tt : Sls → Res Bool) (te : Sls → Res D) (ρ : Sls) (x : D) : Res (Option D) :=
  t x (wipeS ρ vs) >>= fun ρ' => tt ρ' >>= fun b => if b then te ρ' >>= fun y => ok (some y) else ok none
def mLc (it : Sls → Res (List D)) (vs : List Nat) (t : TgF) (tt : Sls → Res Bool) (te : Sls → Res D) : Sls → Res D := fun ρ =>
  it ρ >>= fun xs => compL (lcStep vs t tt te ρ) xs >>= fun ys => ok (.lst ys)
theorem Res.quiet_bind {α β : Type} {r : Res α} {k : α → Res β} {b : β} (h : (r.quiet >>= k) = ok b) : ∃ a, r = ok a ∧ k a = ok b := by
  cases r with
  | ok a => exact ⟨a, rfl, h⟩
  | exc c => cases h
  | bad => cases h
theorem Res.bind_ok {α β : Type} {r : Res α} {k : α → Res β} {b : β} (h : (r >>= k) = ok b) : ∃ a, r = ok a ∧ k a = ok b := by
  cases r with
  | ok a => exact ⟨a, rfl, h⟩
  | exc c => cases h
  | bad => cases h
theorem compL_cons {step : D → Res (Option D)} {x : D} {xs ys : List D} (h : compL step (x :: xs) = ok ys) : ∃ r zs, step x = ok r ∧ compL step xs = ok zs ∧ ys = (match r with | some y => y :: zs | none => zs) := by
  obtain ⟨r, h1, h2⟩ := Res.quiet_bind (show ((step x).quiet >>= fun r => compL step xs >>= fun ys => ok (match r with | some y => y :: ys | none => ys)) = ok ys from h)
  obtain ⟨zs, h3, h4⟩ := Res.bind_ok h2
  cases h4
  exact ⟨r, zs, h1, h3, rfl⟩
theorem compL_exc {step : D → Res (Option D)} {c : Str} : ∀ {xs : List D}, compL step xs ≠ exc c
  | [], h => by cases h
  | x :: xs, h => by
    have h' : ((step x).quiet >>= fun r => compL step xs >>= fun ys => ok (match r with | some y => y :: ys | none => ys)) = exc c := h
    cases q : step x with
    | ok r =>
      rw [q] at h'
      have h2 : (compL step xs >>= fun ys => ok (match r with | some y => y :: ys | none => ys)) = exc c := h'
      cases q2 : compL step xs with
      | ok ys => rw [q2] at h2; cases h2
      | exc c' => exact compL_exc q2
      | bad => rw [q2] at h2; cases h2
    | exc _ => rw [q] at h'; cases h'
    | bad => rw [q] at h'; cases h'
theorem lc_go {J : It} {items ys : List D} {g : L2.TG} {t : TgF} {tt : Sls → Res Bool} {te : Sls → Res D} {vs : List Nat} {σ : L2.St} {H1 : Hp} {O : Addr → Prop} {ρ : Sls} {F : List Addr} {D0 : Addr} {Qd : Hp → Prop} (hD : H1 D0 = none)
    (s : Sta X.K H1 O σ ρ F) (hw : Wk X.K J items H1 O) (hz : items.length ≤ sizeLine) (hg : PP.TG X.K g t vs) (hy : compL (lcStep vs t tt te ρ) items = ok ys)
    (hd : ∀ H2, Same H1 H2 → RepN X.K H2 (Ad O D0) (.ref D0) (.lst ys) D0 → Qd H2) :
    ∃ W : Nat → Nat → Hp → Prop, (∃ m, W 0 m (upd H1 D0 (.lst []))) ∧ ∀ i m H, W i m H →
      (J.stop i H ∧ Qd H) ∨ (J.go i H ∧ ∃ Nx : Hp → Prop, (∀ H', Nx H' → ∃ m', m' < m ∧ W (i + 1) m' H') ∧ ∀ x H', J.yld i H x H' → g x (L2.wipe σ vs) H' fun σ2 H2 => L2.wipe σ2 vs = L2.wipe σ vs ∧ tET X.K E0' tt σ2 H2 fun b H3 =>
        if b = true then tEF X.K E0' te σ2 H3 fun y H4 => ∃ acc, H4 D0 = some (.lst acc) ∧ acc.length < sizeLine ∧ Nx (upd H4 D0 (.lst (acc ++ [y]))) else Nx H3) := by
  -- behind i items: acc holds what they gave; the rest gives the rest
  let W : Nat → Nat → Hp → Prop := fun i m H2 => m + i = items.length ∧ Same H1 H2 ∧ ∃ acc ds rest, H2 D0 = some (.lst acc) ∧ acc.length ≤ i ∧ Reps X.K H2 (Ad O D0) acc ds ∧ compL (lcStep vs t tt te ρ) (items.drop i) = ok rest ∧ ys = ds ++ rest
  have nOD : ¬ O D0 := fun h => (s.dom D0 h).1 hD
  have key : ∀ H2, Same H1 H2 → (∃ acc, H2 D0 = some (.lst acc)) → Later H1 O H2 (Ad O D0) ∧ Dom H2 (Ad O D0) := by
    intro H2 e2 ⟨acc, hacc⟩
    refine ⟨fun a o h n => ⟨e2 a o h, fun z => z.elim n fun z => by subst z; rw [hD] at h; cases h⟩, fun a h => ?_⟩
    rcases h with h | h
    · exact (s.dom.same e2) a h
    · subst h; exact ⟨by rw [hacc]; exact fun z => (nomatch z), noTup_lst hacc⟩
  refine ⟨W, ⟨items.length, by omega, same_new hD, [], [], ys, upd_same, Nat.le_refl _, .nil, by simpa using hy, rfl⟩, ?_⟩
  rintro i m H2 ⟨hm, e2, acc, ds, rest, hacc, hlen, hr, hrest, hys⟩
  obtain ⟨lt, dm⟩ := key H2 e2 ⟨acc, hacc⟩
  obtain ⟨w1, w2⟩ := hw H2 (Ad O D0) lt i
  by_cases hi : i < items.length
  · have hget : items[i]? = some items[i] := List.getElem?_eq_getElem hi
    obtain ⟨go, yl⟩ := w1 items[i] hget
    have hdrop : items.drop i = items[i] :: items.drop (i + 1) := List.drop_eq_getElem_cons hi
    rw [hdrop] at hrest
    obtain ⟨r, zs, hstep, hzs, hrest'⟩ := compL_cons hrest
    refine .inr ⟨go, W (i + 1) (m - 1), fun H' w => ⟨m - 1, by omega, w⟩, fun x H3 hyl => ?_⟩
    obtain ⟨e3, rx⟩ := yl x H3 hyl
    have e13 := e2.trans e3
    have hacc3 := e3 _ _ hacc
    obtain ⟨_, dm3⟩ := key H3 e13 ⟨acc, hacc3⟩
    -- the block's state
    have s3 : Sta X.K H3 (Ad O D0) σ ρ F := ⟨(s.st.more hD).same e13, dm3⟩
    obtain ⟨Fw, sw⟩ := s3.wipe vs
    unfold lcStep at hstep
    obtain ⟨ρ1, ht, hstep⟩ := Res.bind_ok hstep
    obtain ⟨b, htt, hstep⟩ := Res.bind_ok hstep
    refine hg.mono _ _ _ _ _ (fun σ4 H4 q => ⟨wipe_of q.1 q.2.1, q.2.2⟩) (hg.own _ _ _ _ ?_)
    refine hg.run H3 (Ad O D0) x items[i] _ _ Fw _ sw rx ?_
    rw [ht]
    intro σ4 F4 s4 _
    refine ⟨ρ1, Ad O D0, F4, s4, ?_⟩
    rw [htt]
    intro H5 e5
    have e15 := e13.trans e5
    have hacc5 := e5 _ _ hacc3
    cases b with
    | false =>
      refine iteF ⟨by omega, e15, acc, ds, zs, hacc5, by omega, ((hr.same e3).same e5), hzs, ?_⟩
      have : r = none := by simpa using hstep.symm
      subst this
      rw [hys, hrest']
    | true =>
      refine iteT ?_
      have hstep' : (te ρ1 >>= fun y => ok (some y)) = ok r := hstep
      obtain ⟨y, hte, hstep⟩ := Res.bind_ok hstep'
      cases hstep
      refine ⟨ρ1, Ad O D0, F4, s4.same e5, ?_⟩
      rw [hte]
      intro v H6 e6 rv
      have hacc6 := e6 _ _ hacc5
      refine ⟨acc, hacc6, by omega, by omega, ?_, acc ++ [v], ds ++ [y], zs, upd_same, by simp; omega, ?_, hzs, ?_⟩
      · intro a o h
        rw [upd_ne (fun z => by subst z; rw [hD] at h; cases h)]
        exact e6 _ _ (e15 _ _ h)
      · exact ((((hr.same e3).same e5).same e6).snoc rv).upd (.inr rfl) (noTup_lst hacc6)
      · rw [hys, hrest']
        simp
  · refine .inl ⟨w2 (by omega), hd H2 e2 ⟨rfl, .inr rfl, acc, hacc, by omega, ?_⟩⟩
    rw [List.drop_eq_nil_of_le (by omega)] at hrest
    cases hrest
    rw [hys]
    simpa using hr
theorem lc_reads {own : List (Str × Nat)} {it : Sls → Res (List D)} {g : L2.TG} {t : TgF} {tt : Sls → Res Bool} {te : Sls → Res D} {σ : L2.St} {H : Hp} {Q : VK} (hgt : PP.TG X.K g t (own.map (·.2))) (hq : tEN X.K E (mLc it (own.map (·.2)) t tt te) σ H Q) :
    tLc (tEI X.K E it) g (tET X.K E0' tt) (tEF X.K E0' te) (own.map (·.2)) σ H Q := by
  obtain ⟨ρ, O, F, s, p⟩ := hq
  refine ⟨ρ, O, F, s, ?_⟩
  refine p.bind.imp fun xs p1 => ?_
  have p2 : Po X.K E σ H (compL (lcStep (own.map (·.2)) t tt te ρ) xs >>= fun ys => ok (.lst ys)) fun d => ∀ v a H', Same H H' → H a = none → RepN X.K H' (Ad O a) v d a → Q v H' := p1
  cases q : compL (lcStep (own.map (·.2)) t tt te ρ) xs with
  | exc c => exact (compL_exc q).elim
  | bad => rw [q] at p2; exact p2.elim
  | ok ys =>
    rw [q] at p2
    exact fun J H1 e1 z w D0 hD => lc_go hD (s.same e1) w z hgt q fun H2 e2 r => p2 _ D0 H2 (e1.trans e2) (e1.free hD) r
theorem en_lc {elt iter : Expr} {ifs : List Expr} {scope : Scope} {own : List (Str × Nat)} {it : Sls → Res (List D)} {g : L2.TG} {t : TgF} {tt : Sls → Res Bool} {te : Sls → Res D} (hc : X.calm = true) (hN : X.N.Nodup) (hi : EI X E tg iter it) (ok' : BlkOk X.N X.env.scope scope own)
    (hgt : PP.TG X.K g t (own.map (·.2)))
    (hg : ∀ (s : Shared) (H : Hp) (C : Addr) (cl : List (Str × Addr)) (fp : List Addr), PG (X.blk s H scope (compEnvC scope cl C X.env) fp) tg g) (ht : ∀ (s : Shared) (H : Hp) (C : Addr) (cl : List (Str × Addr)) (fp : List Addr), ETs (X.blk s H scope (compEnvC scope cl C X.env) fp) E0' ifs tt)
    (he : ∀ (s : Shared) (H : Hp) (C : Addr) (cl : List (Str × Addr)) (fp : List Addr), EF (X.blk s H scope (compEnvC scope cl C X.env) fp) E0' elt te) (hs : ∀ x, foldedSetIterable iter X.env x = pure x := by intro _; rfl) :
    EN X E (.ListComp elt [⟨tg, iter, ifs, 0⟩] scope pos) (mLc it (own.map (·.2)) t tt te) :=
  pe_imp (pe_lc (tt := tET X.K E0' tt) (te := tEF X.K E0' te) hc hN hi ok' hg ht he hs) fun σ H Q hq => lc_reads hgt hq
end
end PP

namespace PP
open PySem PySem.Spec PyProof.Rows L2
open Res (ok exc bad)

/-! ### statements -/
def FP (K : PySem.W.Frag) (E : EX) (D' : Ends) (H : Hp) (O : Addr → Prop) (F : List Addr) : Fl → Prop
  | .nx ρ' => ∀ σ' H' O' F', Sta K H' O' σ' ρ' F' → Tr H O F H' O' F' → D'.nx σ' H'
  | .rt d => ∀ v H' O' F', Rep K H' O' v d → Tr H O F H' O' F' → D'.rt v H'
  | .bk ρ' => ∀ σ' H' O' F', Sta K H' O' σ' ρ' F' → Tr H O F H' O' F' → D'.bk σ' H'
  | .ct ρ' => ∀ σ' H' O' F', Sta K H' O' σ' ρ' F' → Tr H O F H' O' F' → D'.ct σ' H'
  | .exc c ρ' => ∀ σ' H' O' F', Sta K H' O' σ' ρ' F' → Tr H O F H' O' F' → E σ' (.ref (He.ga K c)) none H'
  | .bad => False
def tSS (K : PySem.W.Frag) (E : EX) (f : Sls → Fl) : TS := fun D σ H => ∃ ρ O F, Sta K H O σ ρ F ∧ FP K E D H O F (f ρ)
abbrev SS (X : Cx) (E : EX) (st : Stmt) (f : Sls → Fl) : Prop := PS X st (tSS X.K E f)
abbrev SSs (X : Cx) (E : EX) (st : List Stmt) (f : Sls → Fl) : Prop := PSs X st (tSS X.K E f)
section
variable {K : PySem.W.Frag} {E : EX} {D' : Ends} {H H1 : Hp} {O O1 : Addr → Prop} {F F1 : List Addr} {σ : L2.St} {ρ : Sls}
theorem FP.later {fl : Fl} (s : Sta K H O σ ρ F) (t : Tr H O F H1 O1 F1) (h : FP K E D' H O F fl) : FP K E D' H1 O1 F1 fl := by
  cases fl with
  | nx ρ' => exact fun σ' H' O' F' s' t' => h σ' H' O' F' s' (t.trans s t')
  | rt d => exact fun v H' O' F' r t' => h v H' O' F' r (t.trans s t')
  | bk ρ' => exact fun σ' H' O' F' s' t' => h σ' H' O' F' s' (t.trans s t')
  | ct ρ' => exact fun σ' H' O' F' s' t' => h σ' H' O' F' s' (t.trans s t')
  | exc c ρ' => exact fun σ' H' O' F' s' t' => h σ' H' O' F' s' (t.trans s t')
  | bad => exact h
/-- an expression's value, then a flow -/
def thenF {α : Type} (r : Res α) (ρ : Sls) (k : α → Fl) : Fl := match r with
  | .ok a => k a
  | .exc c => .exc c ρ
  | .bad => .bad
@[simp] theorem thenF_ok {α : Type} (a : α) (ρ : Sls) (k : α → Fl) : thenF (ok a) ρ k = k a := rfl
@[simp] theorem thenF_exc {α : Type} (c : Str) (ρ : Sls) (k : α → Fl) : thenF (exc c : Res α) ρ k = .exc c ρ := rfl
@[simp] theorem thenF_bad {α : Type} (ρ : Sls) (k : α → Fl) : thenF (bad : Res α) ρ k = .bad := rfl
theorem FP.po {α : Type} {r : Res α} {k : α → Fl} (s : Sta K H O σ ρ F) (h : FP K E D' H O F (thenF r ρ k)) : Po K E σ H r fun a => FP K E D' H O F (k a) := by
  cases r with
  | ok a => exact h
  | exc c => exact fun H' e => h σ H' O F (s.same e) (.same e)
  | bad => exact h
/-- after a new object at a is taken in -/
theorem Sta.add {H2 : Hp} {a : Addr} (s : Sta K H O σ ρ F) (e : Same H H2) (n : H a = none) (h1 : H2 a ≠ none) (h2 : NoTup H2 a) : Sta K H2 (Ad O a) σ ρ F :=
  ⟨(s.st.more n).same e, fun b hb => hb.elim (fun z => s.dom.same e b z) fun z => by subst z; exact ⟨h1, h2⟩⟩
theorem Tr.sub {F' : List Addr} (h : ∀ a ∈ F', a ∈ F) (e : Same H H1) : Tr H O F H1 O F' := ⟨fun a o q _ => e a o q, fun a q => .inl (h a q), fun _ q => .inl q, fun _ q => .inl q⟩
end
section
variable {X : Cx} {E : EX} {e : Expr} {f : Sls → Res D} {tf : Sls → Res Bool} {st : Stmt} {sts : List Stmt} {s1 s2 : Sls → Fl} {pos pos' : Pos}
def sNx : Sls → Fl := fun ρ => .nx ρ
def sSeq (s t : Sls → Fl) : Sls → Fl := fun ρ => match s ρ with
  | .nx ρ' => t ρ'
  | fl => fl
theorem ss_nil : SSs X E [] sNx := pss_imp pss_nil fun D σ H ⟨ρ, O, F, s, p⟩ => p σ H O F s .refl
theorem ss_pass : SS X E (.Pass pos) sNx := ps_imp ps_pass fun D σ H ⟨ρ, O, F, s, p⟩ => p σ H O F s .refl
theorem ss_cons (h1 : SS X E st s1) (h2 : SSs X E sts s2) : SSs X E (st :: sts) (sSeq s1 s2) :=
  pss_imp (pss_cons h1 h2) fun D σ H ⟨ρ, O, F, s, p⟩ => ⟨ρ, O, F, s, by
    unfold sSeq at p
    cases q : s1 ρ with
    | nx ρ' =>
      rw [q] at p
      exact fun σ' H' O' F' s' t => ⟨ρ', O', F', s', FP.later s t p⟩
    | rt d => rw [q] at p; exact p
    | bk ρ' => rw [q] at p; exact p
    | ct ρ' => rw [q] at p; exact p
    | exc c ρ' => rw [q] at p; exact p
    | bad => rw [q] at p; exact p⟩
theorem ss_one (h1 : SS X E st s1) : SSs X E [st] s1 := pss_one h1
/-- code that is never come to -/
theorem ss_never : SSs X E sts fun _ => .bad := ⟨fun _ _ _ _ _ _ ⟨_, _, _, _, p⟩ => p.elim⟩
def sBk : Sls → Fl := fun ρ => .bk ρ
def sCt : Sls → Fl := fun ρ => .ct ρ
theorem ss_break : SS X E (.Break pos) sBk := ps_imp ps_break fun D σ H ⟨ρ, O, F, s, p⟩ => p σ H O F s .refl
theorem ss_cont : SS X E (.Continue pos) sCt := ps_imp ps_continue fun D σ H ⟨ρ, O, F, s, p⟩ => p σ H O F s .refl
/-! ### stores -/
def sSet (i : Nat) (f : Sls → Res D) : Sls → Fl := fun ρ => thenF (f ρ) ρ fun d => .nx (ρ.set i (.fz d))
def sSetO (i : Nat) (f : Sls → Res D) : Sls → Fl := fun ρ => thenF (f ρ) ρ fun d => .nx (ρ.set i (.ow d))
theorem setF_reads {i : Nat} {D' : Ends} {σ : L2.St} {H : Hp} (hq : tSS X.K E (sSet i f) D' σ H) : tEF X.K E f σ H fun x H1 => gName i x σ H1 D'.nx := by
  obtain ⟨ρ, O, F, s, p⟩ := hq
  refine ⟨ρ, O, F, s, (FP.po s p).imp fun d p1 v H1 e1 r1 => ?_⟩
  obtain ⟨F', h1, h2⟩ := RSt.setF r1 i (s.same e1).st
  exact p1 _ H1 O F' ⟨h1, (s.same e1).dom⟩ (.sub h2 e1)
theorem setO_reads {i : Nat} {D' : Ends} {σ : L2.St} {H : Hp} (hq : tSS X.K E (sSetO i f) D' σ H) : tEN X.K E f σ H fun x H1 => gName i x σ H1 D'.nx := by
  obtain ⟨ρ, O, F, s, p⟩ := hq
  refine ⟨ρ, O, F, s, (FP.po s p).imp fun d p1 v a H1 e1 n r1 => ?_⟩
  have hk := r1.2.2
  have s2 := s.add e1 n hk.some hk.noTup
  have nF : a ∉ F := fun h => (s.st.owned a h).2 n
  obtain ⟨F', h1, h2⟩ := RSt.setO r1 i nF s2.st
  exact p1 _ H1 (Ad O a) F' ⟨h1, s2.dom⟩ ⟨fun b o q _ => e1 b o q, fun b hb => (h2 b hb).elim (fun z => .inr (by rw [z]; exact n)) .inl, fun b hb => .inl (.inl hb), fun b hb => hb.imp id fun z => by rw [z]; exact n⟩
theorem ss_set (i : Nat) {x : Str} (he : EF X E e f) (hN : X.N.Nodup) (hi : X.N[i]? = some x := by rfl) (hx : Loc X.env.scope x := by first | exact Or.inl rfl | exact Or.inr rfl) (hs : swapsWith e (some (.Name x pos')) pos.line X.env = pure false := by rfl)
    (hf : X.fn x = true ∨ X.env.scope.names.lookup x = some .local := by first | exact .inl rfl | exact .inr rfl | assumption) : SS X E (.Assign [.Name x pos'] e pos) (sSet i f) :=
  ps_imp (ps_set hN hi hx he hs hf) fun D σ H hq => setF_reads hq
theorem ss_setO (i : Nat) {x : Str} (he : EN X E e f) (hN : X.N.Nodup) (hi : X.N[i]? = some x := by rfl) (hx : Loc X.env.scope x := by first | exact Or.inl rfl | exact Or.inr rfl) (hs : swapsWith e (some (.Name x pos')) pos.line X.env = pure false := by rfl)
    (hf : X.fn x = true ∨ X.env.scope.names.lookup x = some .local := by first | exact .inl rfl | exact .inr rfl | assumption) : SS X E (.Assign [.Name x pos'] e pos) (sSetO i f) :=
  ps_imp (ps_set hN hi hx he hs hf) fun D σ H hq => setO_reads hq
/-- y = [..], y a plain local of this line -/
theorem ss_setLcO (i : Nat) {y : Str} {py : Pos} {elt tg iter : Expr} {ifs : List Expr} {scope : Scope} {own : List (Str × Nat)} {spos : Pos} {it : Sls → Res (List D)} {g : L2.TG} {t : TgF} {tt : Sls → Res Bool} {te : Sls → Res D} (hc : X.calm = true) (hN : X.N.Nodup) (hyl : X.env.scope.names.lookup y = some .local)
    (hsw : swapsWith (.ListComp elt [⟨tg, iter, ifs, 0⟩] scope pos) (some (.Name y py)) spos.line X.env = pure true) (hi : EI X E tg iter it) (ok' : BlkOk X.N X.env.scope scope own) (hgt : PP.TG X.K g t (own.map (·.2)))
    (hg : ∀ (s : Shared) (H : Hp) (C : Addr) (cl : List (Str × Addr)) (fp : List Addr), PG (X.blk s H scope (compEnvC scope cl C X.env) fp) tg g) (ht : ∀ (s : Shared) (H : Hp) (C : Addr) (cl : List (Str × Addr)) (fp : List Addr), ETs (X.blk s H scope (compEnvC scope cl C X.env) fp) E0' ifs tt)
    (he : ∀ (s : Shared) (H : Hp) (C : Addr) (cl : List (Str × Addr)) (fp : List Addr), EF (X.blk s H scope (compEnvC scope cl C X.env) fp) E0' elt te) (hy : X.N[i]? = some y := by rfl) (hs : ∀ x, foldedSetIterable iter X.env x = pure x := by intro _; rfl) :
    SS X E (.Assign [.Name y py] (.ListComp elt [⟨tg, iter, ifs, 0⟩] scope pos) spos) (sSetO i (mLc it (own.map (·.2)) t tt te)) :=
  ps_imp (ps_setLc (tt := tET X.K E0' tt) (te := tEF X.K E0' te) hc hN hy hyl hsw hi ok' hg ht he hs) fun D σ H hq => lc_reads hgt (setO_reads hq)
theorem en_ef {D' : Ends} {σ : L2.St} {H : Hp} {Q : VK} (h : tEF X.K E f σ H Q) : tEN X.K E f σ H Q := by
  obtain ⟨ρ, O, F, s, p⟩ := h
  exact ⟨ρ, O, F, s, p.imp fun d k v a H' e n r => k v H' e (r.frz (not_new s n))⟩
theorem ss_setLc (i : Nat) {y : Str} {py : Pos} {elt tg iter : Expr} {ifs : List Expr} {scope : Scope} {own : List (Str × Nat)} {spos : Pos} {it : Sls → Res (List D)} {g : L2.TG} {t : TgF} {tt : Sls → Res Bool} {te : Sls → Res D} (hc : X.calm = true) (hN : X.N.Nodup) (hyl : X.env.scope.names.lookup y = some .local)
    (hsw : swapsWith (.ListComp elt [⟨tg, iter, ifs, 0⟩] scope pos) (some (.Name y py)) spos.line X.env = pure true) (hi : EI X E tg iter it) (ok' : BlkOk X.N X.env.scope scope own) (hgt : PP.TG X.K g t (own.map (·.2)))
    (hg : ∀ (s : Shared) (H : Hp) (C : Addr) (cl : List (Str × Addr)) (fp : List Addr), PG (X.blk s H scope (compEnvC scope cl C X.env) fp) tg g) (ht : ∀ (s : Shared) (H : Hp) (C : Addr) (cl : List (Str × Addr)) (fp : List Addr), ETs (X.blk s H scope (compEnvC scope cl C X.env) fp) E0' ifs tt)
    (he : ∀ (s : Shared) (H : Hp) (C : Addr) (cl : List (Str × Addr)) (fp : List Addr), EF (X.blk s H scope (compEnvC scope cl C X.env) fp) E0' elt te) (hy : X.N[i]? = some y := by rfl) (hs : ∀ x, foldedSetIterable iter X.env x = pure x := by intro _; rfl) :
    SS X E (.Assign [.Name y py] (.ListComp elt [⟨tg, iter, ifs, 0⟩] scope pos) spos) (sSet i (mLc it (own.map (·.2)) t tt te)) :=
  ps_imp (ps_setLc (tt := tET X.K E0' tt) (te := tEF X.K E0' te) hc hN hy hyl hsw hi ok' hg ht he hs) fun D σ H hq => lc_reads hgt (en_ef (D' := D) (setF_reads hq))
/-- target = value -/
def sAsg (t : TgF) (f : Sls → Res D) : Sls → Fl := fun ρ => thenF (f ρ >>= fun d => (t d ρ).quiet) ρ fun ρ' => .nx ρ'
theorem ss_asg {tg : Expr} {g : L2.TG} {t : TgF} {vs : List Nat} (he : EF X E e f) (hg : PG X tg g) (hgt : PP.TG X.K g t vs) (hs : swapsWithSole [tg] e pos.line X.env = pure false := by rfl) (hw : swappedStores [tg] e X.env = pure none := by rfl)
    (h1 : (assignEach [tg] X.env).map (·.2) = [assign tg X.env] := by rfl) : SS X E (.Assign [tg] e pos) (sAsg t f) :=
  ps_imp (ps_asg he hg hs hw h1) fun D σ H ⟨ρ, O, F, s, p⟩ => ⟨ρ, O, F, s, (FP.po s p).bind.imp fun d p1 v H1 e1 r1 => hgt.run H1 O v d σ ρ F _ (s.same e1) r1 (by
    cases q : t d ρ with
    | ok ρ' => rw [q] at p1; exact fun σ' F' s' sub => p1 σ' H1 O F' s' (.sub sub e1)
    | exc c => rw [q] at p1; exact p1.elim
    | bad => rw [q] at p1; exact p1.elim)⟩

/-- a, b = x, y, plain locals -/
def sPar (i j : Nat) (f g : Sls → Res D) : Sls → Fl := fun ρ => thenF (f ρ) ρ fun x => thenF (g ρ) ρ fun y => .nx ((ρ.set i (.fz x)).set j (.fz y))
theorem ss_par (i j : Nat) {x y : Str} {a b : Expr} {g : Sls → Res D} {px py pt : Pos} {kt k2 pt2} (ha : EF X E a f) (hb : EF X E b g) (hc : X.calm = true) (hN : X.N.Nodup) (hi : X.N[i]? = some x := by rfl) (hj : X.N[j]? = some y := by rfl) (hij : i ≠ j := by decide)
    (hx : X.env.scope.names.lookup x = some .local := by rfl) (hy : X.env.scope.names.lookup y = some .local := by rfl)
    (hw : swappedStores [.Tuple [.Name x px, .Name y py] kt pt] (.Tuple [a, b] k2 pt2) X.env = pure (some [x, y]) := by rfl)
    (hs : swapsWithSole [.Tuple [.Name x px, .Name y py] kt pt] (.Tuple [a, b] k2 pt2) pos.line X.env = pure false := by rfl) (h1 : starEach [a, b] X.env = (false, eval a X.env) :: starEach [b] X.env := by rfl) (h2 : starEach [b] X.env = (false, eval b X.env) :: starEach [] X.env := by rfl) :
    SS X E (.Assign [.Tuple [.Name x px, .Name y py] kt pt] (.Tuple [a, b] k2 pt2) pos) (sPar i j f g) :=
  ps_imp (ps_par hc hN hi hj hij hx hy (pa_cons ha (pa_cons hb pa_nil h2) h1) hw hs) fun D σ H ⟨ρ, O, F, s, p⟩ => ⟨ρ, O, F, s, (FP.po s p).imp fun dx p1 v H1 e1 r1 =>
    ⟨ρ, O, F, s.same e1, ((FP.po s p1).imp fun dy p2 u H2 e2 r2 => by
      have e12 := e1.trans e2
      obtain ⟨F1, g1, g2⟩ := RSt.setF (r1.same e2) i (s.same e12).st
      obtain ⟨F2, g3, g4⟩ := RSt.setF r2 j g1
      exact ⟨v, u, rfl, p2 _ H2 O F2 ⟨g3, (s.same e12).dom⟩ (.sub (fun a h => g2 a (g4 a h)) e12)⟩).later e1⟩⟩
def sRet (f : Sls → Res D) : Sls → Fl := fun ρ => thenF (f ρ) ρ .rt
theorem ss_ret (he : EF X E e f) : SS X E (.Return (some e) pos) (sRet f) :=
  ps_imp (ps_ret he) fun D σ H ⟨ρ, O, F, s, p⟩ => ⟨ρ, O, F, s, (FP.po s p).imp fun d p1 v H1 e1 r1 => p1 v H1 O F r1 (.same e1)⟩
theorem ss_retN : SS X E (.Return none pos) (fun _ => .rt .non) :=
  ps_imp ps_retN fun D σ H ⟨ρ, O, F, s, p⟩ => p .non H O F .non .refl
def sIf (c : Sls → Res Bool) (s t : Sls → Fl) : Sls → Fl := fun ρ => thenF (c ρ) ρ fun b => if b then s ρ else t ρ
theorem ss_if {c : Expr} {a b : List Stmt} (hc : ET X E c tf) (ha : SSs X E a s1) (hb : SSs X E b s2) : SS X E (.If c a b pos) (sIf tf s1 s2) :=
  ps_imp (ps_if hc ha hb) fun D σ H ⟨ρ, O, F, s, p⟩ => ⟨ρ, O, F, s, (FP.po s p).imp fun b p1 H1 e1 => by
    cases b with
    | true => exact iteT ⟨ρ, O, F, s.same e1, FP.later s (.same e1) p1⟩
    | false => exact iteF ⟨ρ, O, F, s.same e1, FP.later s (.same e1) p1⟩⟩
def sDrop (f : Sls → Res D) : Sls → Fl := fun ρ => thenF (f ρ) ρ fun _ => .nx ρ
theorem ss_expr (he : EF X E e f) (hs : swapsWith e none pos.line X.env = pure false := by rfl) : SS X E (.Expr e pos) (sDrop f) :=
  ps_imp (ps_expr he hs) fun D σ H ⟨ρ, O, F, s, p⟩ => ⟨ρ, O, F, s, (FP.po s p).imp fun d p1 v H1 e1 r1 => p1 σ H1 O F (s.same e1) (.same e1)⟩
/-- raise C('..') -/
def sRaise (c : Str) : Sls → Fl := fun ρ => .exc c ρ
theorem ss_raise {c : Str} {W : WX} {ex : Expr} (hc : X.calm = true) (tk : Takes X W) (he : PMk X ex fun _ H Q => Q (.ref (He.ga X.K c)) none H) (hE : ∀ σ cls d H, E σ cls d H → W cls d σ H) : SS X E (.Raise (some ex) none pos) (sRaise c) :=
  ps_imp (ps_raise hc tk he) fun D σ H ⟨ρ, O, F, s, p⟩ => hE _ _ _ _ (p σ H O F s .refl)
/-- a slot's value is not changed any more -/
def frzAt (i : Nat) (ρ : Sls) : Sls := match ρ[i]? with
  | some (.ow d) => ρ.set i (.fz d)
  | _ => ρ
theorem Sta.frz {K : PySem.W.Frag} {H : Hp} {O : Addr → Prop} {σ : L2.St} {ρ : Sls} {F : List Addr} (s : Sta K H O σ ρ F) (i : Nat) : ∃ O' F', Sta K H O' σ (frzAt i ρ) F' ∧ Tr H O F H O' F' := by
  unfold frzAt
  split
  · rename_i d e
    obtain ⟨a, e1, hF, hO, hk⟩ := s.st.getO e
    obtain ⟨O', F', h1, h2, h3, h4⟩ := s.st.freeze' e
    exact ⟨O', F', ⟨h2, fun b hb => s.dom b (h1 b hb)⟩, ⟨fun _ _ q _ => q, fun b hb => .inl (h3 b hb), h4, fun b hb => .inl (h1 b hb)⟩⟩
  · exact ⟨O, F, s, .refl⟩
theorem ss_frz (i : Nat) (h : SS X E st s1) : SS X E st fun ρ => s1 (frzAt i ρ) :=
  ps_imp h fun D σ H ⟨ρ, O, F, s, p⟩ => by
    obtain ⟨O', F', s', t⟩ := s.frz i
    exact ⟨_, O', F', s', FP.later s t p⟩
/-! ### loops -/
def forL (step : D → Sls → Fl) : List D → Sls → Fl
  | [], ρ => .nx ρ
  | x :: xs, ρ => match step x ρ with
    | .nx ρ' => forL step xs ρ'
    | .ct ρ' => forL step xs ρ'
    | .bk ρ' => .nx ρ'
    | .rt d => .rt d
    | .exc c ρ' => .exc c ρ'
    | .bad => .bad
def sFor (it : Sls → Res (List D)) (t : TgF) (body : Sls → Fl) : Sls → Fl := fun ρ => thenF (it ρ) ρ fun xs => forL (fun x ρ => thenF (t x ρ).quiet ρ body) xs ρ
theorem ss_for {tg iter : Expr} {body : List Stmt} {it : Sls → Res (List D)} {g : L2.TG} {t : TgF} {vs : List Nat} (hp : PassesOwn (model X.prog X.w) X.A X.env X.xe) (hc : X.calm = true) (hi : EI X E tg iter it) (hg : PG X tg g) (hgt : PP.TG X.K g t vs) (hb : SSs X E body s1)
    (hs : ∀ x, foldedSetIterable iter X.env x = pure x := by intro _; rfl) : SS X E (.For tg iter body [] pos) (sFor it t s1) :=
  ps_imp (ps_for hp hc hi hg hb hs) fun D σ H ⟨ρ, O, F, s, p⟩ => ⟨ρ, O, F, s, (FP.po s p).imp fun xs p1 J H1 e1 hz hw => by
    refine ⟨fun i m σ2 H2 => m + i = xs.length ∧ ∃ ρ2 O2 F2, Sta X.K H2 O2 σ2 ρ2 F2 ∧ Tr H1 O F H2 O2 F2 ∧ FP X.K E D H2 O2 F2 (forL (fun x ρ => thenF (t x ρ).quiet ρ s1) (xs.drop i) ρ2), ⟨xs.length, by omega, ρ, O, F, s.same e1, .refl, FP.later s (.same e1) (by simpa using p1)⟩, ?_⟩
    rintro i m σ2 H2 ⟨hm, ρ2, O2, F2, s2, t2, p2⟩
    obtain ⟨w1, w2⟩ := hw H2 O2 (t2.later (s.same e1)) i
    by_cases hi : i < xs.length
    · have hdrop : xs.drop i = xs[i] :: xs.drop (i + 1) := List.drop_eq_getElem_cons hi
      rw [hdrop] at p2
      obtain ⟨go, yl⟩ := w1 xs[i] (List.getElem?_eq_getElem hi)
      refine .inr ⟨go, fun σ3 H3 => ∃ ρ3 O3 F3, Sta X.K H3 O3 σ3 ρ3 F3 ∧ Tr H1 O F H3 O3 F3 ∧ FP X.K E D H3 O3 F3 (forL (fun x ρ => thenF (t x ρ).quiet ρ s1) (xs.drop (i + 1)) ρ3), fun σ3 H3 q => ⟨m - 1, by omega, by omega, q⟩, fun x H3 hy => ?_⟩
      obtain ⟨e3, rx⟩ := yl x H3 hy
      have s3 := s2.same e3
      refine hgt.run H3 O2 x xs[i] σ2 ρ2 F2 _ s3 rx ?_
      have p3 : FP X.K E D H2 O2 F2 (match thenF (t xs[i] ρ2).quiet ρ2 s1 with
        | .nx ρ' => forL (fun x ρ => thenF (t x ρ).quiet ρ s1) (xs.drop (i + 1)) ρ'
        | .ct ρ' => forL (fun x ρ => thenF (t x ρ).quiet ρ s1) (xs.drop (i + 1)) ρ'
        | .bk ρ' => .nx ρ'
        | .rt d => .rt d
        | .exc c ρ' => .exc c ρ'
        | .bad => .bad) := p2
      cases q : t xs[i] ρ2 with
      | exc c => rw [q] at p3; exact p3.elim
      | bad => rw [q] at p3; exact p3.elim
      | ok ρ4 =>
        rw [q] at p3
        intro σ4 F4 s4 sub
        have t24 : Tr H2 O2 F2 H3 O2 F4 := .sub sub e3
        refine ⟨ρ4, O2, F4, s4, ?_⟩
        have p4 : FP X.K E D H3 O2 F4 (match s1 ρ4 with
          | .nx ρ' => forL (fun x ρ => thenF (t x ρ).quiet ρ s1) (xs.drop (i + 1)) ρ'
          | .ct ρ' => forL (fun x ρ => thenF (t x ρ).quiet ρ s1) (xs.drop (i + 1)) ρ'
          | .bk ρ' => .nx ρ'
          | .rt d => .rt d
          | .exc c ρ' => .exc c ρ'
          | .bad => .bad) := FP.later s2 t24 p3
        have t14 := t2.trans (s.same e1) t24
        cases q5 : s1 ρ4 with
        | nx ρ5 => rw [q5] at p4; exact fun σ5 H5 O5 F5 s5 t5 => ⟨ρ5, O5, F5, s5, t14.trans (s.same e1) t5, FP.later s4 t5 p4⟩
        | ct ρ5 => rw [q5] at p4; exact fun σ5 H5 O5 F5 s5 t5 => ⟨ρ5, O5, F5, s5, t14.trans (s.same e1) t5, FP.later s4 t5 p4⟩
        | bk ρ5 => rw [q5] at p4; exact p4
        | rt d => rw [q5] at p4; exact p4
        | exc c ρ5 => rw [q5] at p4; exact p4
        | bad => rw [q5] at p4; exact p4
    · rw [List.drop_eq_nil_of_le (by omega)] at p2
      exact .inl ⟨w2 (by omega), p2 σ2 H2 O2 F2 s2 .refl⟩⟩
def whileN (c : Sls → Res Bool) (body : Sls → Fl) : Nat → Sls → Fl
  | 0, _ => .bad
  | n + 1, ρ => thenF (c ρ) ρ fun b => if b then (match body ρ with
    | .nx ρ' => whileN c body n ρ'
    | .ct ρ' => whileN c body n ρ'
    | .bk ρ' => .nx ρ'
    | .rt d => .rt d
    | .exc e ρ' => .exc e ρ'
    | .bad => .bad) else .nx ρ
theorem ss_while (n : Nat) {c : Expr} {body : List Stmt} (hp : PassesOwn (model X.prog X.w) X.A X.env X.xe) (hc : ET X E c tf) (hb : SSs X E body s1) : SS X E (.While c body [] pos) (whileN tf s1 n) :=
  ps_imp (ps_while hp hc hb) fun D σ H ⟨ρ, O, F, s, p⟩ => by
    refine ⟨fun m σ2 H2 => ∃ ρ2 O2 F2, Sta X.K H2 O2 σ2 ρ2 F2 ∧ FP X.K E D H2 O2 F2 (whileN tf s1 m ρ2), ⟨n, ρ, O, F, s, p⟩, ?_⟩
    rintro m σ2 H2 ⟨ρ2, O2, F2, s2, p2⟩
    cases m with
    | zero => exact p2.elim
    | succ m =>
      refine ⟨ρ2, O2, F2, s2, (FP.po s2 p2).imp fun b p3 H3 e3 => ?_⟩
      cases b with
      | false => exact iteF (p3 σ2 H3 O2 F2 (s2.same e3) (.same e3))
      | true =>
        refine iteT ⟨fun σ4 H4 => ∃ ρ4 O4 F4, Sta X.K H4 O4 σ4 ρ4 F4 ∧ FP X.K E D H4 O4 F4 (whileN tf s1 m ρ4), fun σ4 H4 q => ⟨m, Nat.lt_succ_self m, q⟩, ρ2, O2, F2, s2.same e3, ?_⟩
        have s3 := s2.same e3
        have p4 : FP X.K E D H3 O2 F2 (match s1 ρ2 with
          | .nx ρ' => whileN tf s1 m ρ'
          | .ct ρ' => whileN tf s1 m ρ'
          | .bk ρ' => .nx ρ'
          | .rt d => .rt d
          | .exc e ρ' => .exc e ρ'
          | .bad => .bad) := FP.later s2 (.same e3) p3
        cases q5 : s1 ρ2 with
        | nx ρ5 => rw [q5] at p4; exact fun σ5 H5 O5 F5 s5 t5 => ⟨ρ5, O5, F5, s5, FP.later s3 t5 p4⟩
        | ct ρ5 => rw [q5] at p4; exact fun σ5 H5 O5 F5 s5 t5 => ⟨ρ5, O5, F5, s5, FP.later s3 t5 p4⟩
        | bk ρ5 => rw [q5] at p4; exact p4
        | rt d => rw [q5] at p4; exact p4
        | exc c ρ5 => rw [q5] at p4; exact p4
        | bad => rw [q5] at p4; exact p4
/-! ### xs.append(e) -/
def sApp (i : Nat) (f : Sls → Res D) : Sls → Fl := fun ρ => match ρ[i]? with
  | some (.ow (.lst ds)) => thenF (f ρ) ρ fun d => if ds.length < sizeLine then .nx (ρ.set i (.ow (.lst (ds ++ [d])))) else .bad
  | _ => .bad
theorem app_reads {i : Nat} {D' : Ends} {σ : L2.St} {H : Hp} {Kf : PySem.W.Frag} (hq : tSS Kf E (sApp i f) D' σ H) :
    tDrop (tBM Kf "list" rAppend (tVar i) (tCons (tEF Kf E f) tNil)) D' σ H := by
  obtain ⟨ρ, O, F, s, p⟩ := hq
  unfold sApp at p
  split at p
  · rename_i ds e
    obtain ⟨a, e1, hF, hO, vs, e2, z, r⟩ := s.st.getO e
    refine ⟨_, e1, .inl ⟨rfl, vs, .of e2⟩, ρ, O, F, s, (FP.po s p).imp fun d p1 v H1 eH r1 => ?_⟩
    have s1 := s.same eH
    have e3 := eH _ _ e2
    by_cases hl : ds.length < sizeLine
    · rw [if_pos hl] at p1
      refine ⟨a, vs, v, rfl, rfl, e3, by rw [r.length]; exact hl, ?_⟩
      have hk : RepK Kf (upd H1 a (.lst (vs ++ [v]))) O a (.lst (ds ++ [d])) := ⟨_, upd_same, by simp; rw [r.length]; exact hl, ((r.same eH).snoc r1).upd hO (noTup_lst e3)⟩
      have st2 := RSt.updAt hO (noTup_lst e3) hk e e1 s1.st
      refine p1 _ _ O F ⟨st2, fun b hb => ?_⟩ ⟨fun b o q n => ?_, fun b hb => .inl hb, fun b hb => .inl hb, fun b hb => .inl hb⟩
      · by_cases hba : b = a
        · subst hba; exact ⟨by rw [upd_same]; exact fun z => (nomatch z), noTup_lst upd_same⟩
        · obtain ⟨d1, d2⟩ := s1.dom b hb
          exact ⟨by rw [upd_ne hba]; exact d1, fun xs q => d2 xs (by rcases q with q | ⟨o, q⟩ <;> rw [upd_ne hba] at q; exact .inl q; exact .inr ⟨o, q⟩)⟩
      · rw [upd_ne (fun z => n (by rw [z]; exact hF))]
        exact eH _ _ q
    · rw [if_neg hl] at p1
      exact p1.elim
  · exact p.elim
theorem ss_app (i : Nat) {x : Str} {px apos cpos spos : Pos} (he : EF X E e f) (hN : X.N[i]? = some x := by rfl) (hv : Vis X.env.scope x := by first | exact Or.inl rfl | exact Or.inr (Or.inl rfl) | exact Or.inr (Or.inr rfl)) (hd : (x == ("__debug__" : Str)) = false := by decide)
    (hcd : (x == ("__classdict__" : Str)) = false := by decide)
    (hbase : attributeBase (.Name x px) "append" X.env (eval (.Name x px) X.env) = eval (.Name x px) X.env := by rfl)
    (hfew : ((backTo cpos (starEach [e] X.env)).all (fun x => !x.1) && (backToKw cpos (keywordEach [] X.env)).all (fun x => x.1.isSome)
      && decide (([e] : List Expr).length + ([] : List Keyword).length + (if ([] : List Keyword).isEmpty then 0 else 1) < 30)) = true := by rfl)
    (hline : (apos.endLine == cpos.line) = true := by rfl) (hs : starEach [e] X.env = (false, eval e X.env) :: starEach [] X.env := by rfl) (hplain : (backTo cpos (starEach [] X.env)).any (·.1) = false := by rfl)
    (hsw : swapsWith (.Call (.Attribute (.Name x px) "append" apos) [e] [] cpos) none spos.line X.env = pure false := by rfl) :
    SS X E (.Expr (.Call (.Attribute (.Name x px) "append" apos) [e] [] cpos) spos) (sApp i f) :=
  ps_imp (ps_expr (pe_bm PySem.F.plainAttrs_list PySem.F.slot_list_append PySem.F.type_list_append mt_append (pe_var hN hv hd hcd) (pa_cons he pa_nil hs) hbase hfew hline hs hplain) hsw) fun D σ H hq => app_reads hq

/-! ### defs -/
def startS (n : Nat) (ds : List D) : Sls := ds.map .fz ++ List.replicate (n - ds.length) .no
/-- a def with n slots and k parameters, its body s -/
def runF (n k : Nat) (s : Sls → Fl) : List D → Res D := fun ds => if ds.length = k then (match s (startS n ds) with
  | .rt d => ok d
  | .nx _ => ok .non
  | .exc c _ => exc c
  | _ => bad) else bad
end
section
variable {P : Program} {w : World} {K : PySem.W.Frag} {mg : Str → Option Value} {base : Heap}
theorem start_sta {H : Hp} {Z : Addr → Prop} {N : List Str} {vs : List V} {ds : List D} (r : Reps K H Z vs ds) (d : Dom H Z) : Sta K H Z (L2.start N vs) (startS N.length ds) [] := by
  refine ⟨?_, d⟩
  unfold L2.start startS
  rw [r.length]
  have nos : ∀ n : Nat, RSt K H Z (List.replicate n none) (List.replicate n Sl.no) [] := fun n => by
    induction n with
    | zero => exact .nil
    | succ n ih => exact .no ih
  have go : ∀ {vs : List V} {ds : List D}, Reps K H Z vs ds → RSt K H Z (vs.map some ++ List.replicate (N.length - 0) none) (ds.map Sl.fz ++ List.replicate (N.length - 0) Sl.no) [] → True := fun _ _ => trivial
  have all : ∀ {vs : List V} {ds : List D} {σ : L2.St} {ρ : Sls}, Reps K H Z vs ds → RSt K H Z σ ρ [] → RSt K H Z (vs.map some ++ σ) (ds.map Sl.fz ++ ρ) [] := by
    intro vs
    induction vs with
    | nil => intro ds σ ρ r t; cases r; exact t
    | cons v vs ih =>
      intro ds σ ρ r t
      cases r with
      | cons r rs => exact .fz r (ih rs t)
  exact all r (nos _)
/-- where nothing is owned at the entry -/
theorem Tr.entry {H H' : Hp} {O O' : Addr → Prop} {F' : List Addr} (t : Tr H O [] H' O' F') : Same H H' := fun a o h => t.keep a o h (by simp)
theorem fn_F {x qual : Str} {st : Stmt} {f : Addr} {fd : FuncData} {N ps : List Str} {k : Nat} {body : Sls → Fl} (Fu : Fun K x qual st f fd) (S : FnScope N ps (defScope st))
    (hb : ∀ (cdv : Value) (A : Around) (outer : List Env) (s : Shared) (H : Hp) (E : XK), Room k (A.deeper (envOfC qual (defScope st) s.heap.objs.size f cdv)) →
      SSs (cxOf (L2.CX P w) P w K mg base N qual (defScope st) f cdv A outer s H E) (fun _ => E) (defBody st) body) :
    FnOk P w K mg base (L2.CX P w) (k + 1) f fd ps (spF K (runF N.length ps.length body)) := by
  refine Fu.okX S (fun vs H Q E h => ?_) (fun cdv A outer s H vs Q E hr h => ⟨_, hb cdv A outer s H E hr, ?_⟩)
  · obtain ⟨ds, Z, r, d, h⟩ := h
    by_cases e : ds.length = ps.length
    · rw [r.length]; exact e
    · unfold runF at h; rw [if_neg e] at h; exact h.elim
  · obtain ⟨ds, Z, r, d, h⟩ := h
    have e : ds.length = ps.length := by
      by_cases e : ds.length = ps.length
      · exact e
      · unfold runF at h; rw [if_neg e] at h; exact h.elim
    unfold runF at h
    rw [if_pos e] at h
    refine ⟨startS N.length ds, Z, [], start_sta r d, ?_⟩
    have fin : ∀ {v : V} {x : D} {H' : Hp} {O' : Addr → Prop} {F' : List Addr}, Rep K H' O' v x → Tr H Z [] H' O' F' → Rep K H' Z v x := fun r t => r.less fun a ha => (t.own a ha).elim id fun z => by simp at z
    cases q : body (startS N.length ds) with
    | nx ρ' => rw [q] at h; exact fun σ' H' O' F' s' t => h .non H' t.entry .non
    | rt x => rw [q] at h; exact fun v H' O' F' r t => h v H' t.entry (fin r t)
    | exc c ρ' => rw [q] at h; exact fun σ' H' O' F' s' t => h H' t.entry
    | bk ρ' => rw [q] at h; exact h.elim
    | ct ρ' => rw [q] at h; exact h.elim
    | bad => rw [q] at h; exact h.elim
end
end PP

namespace PP
open PySem PySem.Spec PyProof.Rows L2
open Res (ok exc bad)
def putG (f : Str) (v : D) : List (Str × D) → List (Str × D)
  | [] => [(f, v)]
  | (g, w) :: r => if g = f then (g, v) :: r else (g, w) :: putG f v r
section
variable {K : PySem.W.Frag} {H : Hp} {O : Addr → Prop}
theorem RepFs.put {fn : Str} {v : V} {d : D} (r : Rep K H O v d) : ∀ {fs gs}, RepFs K H O fs gs → RepFs K H O (putF fn v fs) (putG fn d gs)
  | _, _, .nil => by unfold putF putG; exact .cons r .nil
  | _, _, .cons (x := y) q t => by
    unfold putF putG
    by_cases e : y = fn
    · rw [if_pos e, if_pos e]
      exact .cons r t
    · rw [if_neg e, if_neg e]
      exact .cons q (RepFs.put r t)
theorem RepFs.length : ∀ {fs gs}, RepFs K H O fs gs → fs.length = gs.length
  | _, _, .nil => rfl
  | _, _, .cons _ t => congrArg (· + 1) t.length
end
section
variable {X : Cx} {E : EX} {e : Expr} {f : Sls → Res D} {pos pos' : Pos}
/-- self.f = e, self in slot i -/
def sFldS (i : Nat) (c fn : Str) (f : Sls → Res D) : Sls → Fl := fun ρ => match ρ[i]? with
  | some (.me a (.obj c' gs)) => if c' = c ∧ gs.length < 900 then thenF (f ρ) ρ fun d => .nx (ρ.set i (.me a (.obj c' (putG fn d gs)))) else .bad
  | _ => .bad
theorem ss_fld (i : Nat) {c fn x : Str} {px : Pos} (hk : FldOk X.K fn c) (he : EF X E e f) (hN : X.N[i]? = some x := by rfl) (hv : Vis X.env.scope x := by first | exact Or.inl rfl | exact Or.inr (Or.inl rfl) | exact Or.inr (Or.inr rfl)) (hd : (x == ("__debug__" : Str)) = false := by decide)
    (hcd : (x == ("__classdict__" : Str)) = false := by decide) (hs : swapsWith e (some (.Attribute (.Name x px) fn pos')) pos.line X.env = pure false := by rfl) :
    SS X E (.Assign [.Attribute (.Name x px) fn pos'] e pos) (sFldS i c fn f) :=
  ps_imp (ps_fld (pe_var hN hv hd hcd) he hs) fun D σ H ⟨ρ, O, F, s, p⟩ => by
    unfold sFldS at p
    split at p
    · rename_i a c' gs eρ
      by_cases hc : c' = c ∧ gs.length < 900
      · rw [if_pos hc] at p
        obtain ⟨rfl, hl⟩ := hc
        refine ⟨ρ, O, F, s, (FP.po s p).imp fun d p1 v H1 e1 r1 => ?_⟩
        have s1 := s.same e1
        obtain ⟨g1, g2, g3, dx, fs, g4, g5⟩ := s1.st.getM eρ
        refine ⟨_, g1, a, _, dx, fs, rfl, g4, hk.1, hk.2, by rw [g5.length]; omega, ?_⟩
        have nt : NoTup H1 a := fun ys r => by rcases r with r | ⟨o, r⟩ <;> (rw [g4] at r; cases r)
        have hk2 : RepK X.K (upd H1 a (.ins (He.ga X.K c') dx (putF fn v fs))) O a (.obj c' (putG fn d gs)) := ⟨dx, _, upd_same, (RepFs.put r1 g5).upd g3 nt⟩
        have st2 := RSt.updMe g3 nt hk2 eρ s1.st
        refine p1 _ _ O F ⟨st2, fun b hb => ?_⟩ ⟨fun b o q n => ?_, fun b hb => .inl hb, fun b hb => .inl hb, fun b hb => .inl hb⟩
        · by_cases hba : b = a
          · subst hba; exact ⟨by rw [upd_same]; exact fun z => (nomatch z), hk2.noTup⟩
          · obtain ⟨d1, d2⟩ := s1.dom b hb
            exact ⟨by rw [upd_ne hba]; exact d1, fun xs q => d2 xs (by rcases q with q | ⟨o, q⟩ <;> rw [upd_ne hba] at q; exact .inl q; exact .inr ⟨o, q⟩)⟩
        · rw [upd_ne (fun z => n (by rw [z]; exact g2))]
          exact e1 _ _ q
      · rw [if_neg hc] at p
        exact p.elim
    · exact p.elim
/-! ### __init__ -/
/-- C.__init__(self, ..) of a new instance: it becomes the object f tells -/
def spI (K : PySem.W.Frag) (c : Str) (f : Addr → List D → Res D) : Sp := fun vs H Q E => ∃ a dx us ds Z, vs = .ref a :: us ∧ H a = some (.ins (He.ga K c) dx []) ∧ Z a ∧ Reps K H Z us ds ∧ Dom H Z ∧ (match f a ds with
  | .ok d => ∀ H', (∀ b o, b ≠ a → H b = some o → H' b = some o) → RepK K H' Z a d → Q .non H'
  | .exc x => ∀ H', (∀ b o, b ≠ a → H b = some o → H' b = some o) → E (.ref (He.ga K x)) none H'
  | .bad => False)
def meAt (a : Addr) : Option Sl → Res D
  | some (.me b d) => if b = a then ok d else bad
  | _ => bad
def runI (n k : Nat) (c : Str) (s : Sls → Fl) (a : Addr) (ds : List D) : Res D := if ds.length = k then (match s (.me a (.obj c []) :: startS (n - 1) ds) with
  | .nx ρ' => meAt a ρ'[0]?
  | .exc x _ => exc x
  | _ => bad) else bad
variable {CX : CXT} {n : Nat} {fa : Addr} {fd : FuncData} {ps : List Str} {x : Str} {p : Pos} {F : List D → Res D} {fi : Addr → List D → Res D} {es : List Expr} {fs : List (Sls → Res D)} {c : Str}
def mMake (F : List D → Res D) (fs : List (Sls → Res D)) : Sls → Res D := fun ρ => mArgs fs ρ >>= fun ds => (F ds).quiet
theorem ef_make (M : Mk X.K (He.ga X.K x) fa) (G : FnOk X.prog X.w X.K X.mg X.base (L2.CX X.prog X.w) n fa fd ps (spI X.K x fi)) (hF : ∀ a ds d, F ds = ok d → fi a ds = ok d) (hr : Room (n + 1) X.A) (hm : X.mg x = some (.ref (He.ga X.K x))) (hb : Binds X.K fd ps [])
    (ha : EA X E (e :: es) (mArgs fs)) (hg : Gl X x := by rfl) (hdb : (x == ("__debug__" : Str)) = false := by decide) (he : starEach (e :: es) X.env = (false, eval e X.env) :: starEach es X.env := by rfl) (hpl : (backTo pos (starEach es X.env)).any (·.1) = false := by rfl) :
    EF X E (.Call (.Name x p) (e :: es) [] pos) (mMake F fs) :=
  pe_imp (pe_make M G hr hg hm hb .nil passL ha hdb he hpl) fun σ H Q ⟨ρ, O, FF, s, p⟩ => ⟨ρ, O, FF, s, p.bind.imp fun ds p1 vs H1 e1 r1 y dx ny ndx nyx => by
    cases q : F ds with
    | ok d =>
      rw [q] at p1
      have s1 := s.same e1
      have nO : ¬ O y := fun h => (s1.dom y h).1 ny
      have sm : Same H1 (upd (upd H1 dx (.own y)) y (.ins (He.ga X.K x) dx [])) := (same_new ndx).trans (same_new (by rw [upd_ne (Ne.symm nyx)]; exact ny))
      refine ⟨y, dx, vs ++ [], ds, Ad O y, rfl, upd_same, .inr rfl, ?_, fun b hb => ?_, ?_⟩
      · rw [List.append_nil]; exact (r1.more ny).same sm
      · rcases hb with hb | hb
        · exact (s1.dom.same sm) b hb
        · subst hb; exact ⟨by rw [upd_same]; exact fun z => (nomatch z), fun ys r => by rcases r with r | ⟨o, r⟩ <;> (rw [upd_same] at r; cases r)⟩
      · rw [hF y ds d q]
        refine fun H' k rk => ⟨rfl, p1 _ H' (fun b o h => ?_) (rk.freeze nO fun _ z => .inl z)⟩
        have hby : b ≠ y := fun z => by subst z; rw [e1 b o h] at ny; cases ny
        exact k b o hby (sm b o (e1 b o h))
    | exc c => rw [q] at p1; exact p1.elim
    | bad => rw [q] at p1; exact p1.elim⟩
end
section
variable {P : Program} {w : World} {K : PySem.W.Frag} {mg : Str → Option Value} {base : Heap}
theorem fn_I {c x qual : Str} {st : Stmt} {f : Addr} {fd : FuncData} {N ps : List Str} {k n : Nat} {p0 : Str} {body : Sls → Fl} (Fu : Fun K x qual st f fd) (S : FnScope N (p0 :: ps) (defScope st)) (hn : N.length = n + 1)
    (hb : ∀ (cdv : Value) (A : Around) (outer : List Env) (s : Shared) (H : Hp) (E : XK), Room k (A.deeper (envOfC qual (defScope st) s.heap.objs.size f cdv)) →
      SSs (cxOf (L2.CX P w) P w K mg base N qual (defScope st) f cdv A outer s H E) (fun _ => E) (defBody st) body) :
    FnOk P w K mg base (L2.CX P w) (k + 1) f fd (p0 :: ps) (spI K c (runI (n + 1) ps.length c body)) := by
  refine Fu.okX S (fun vs H Q E h => ?_) (fun cdv A outer s H vs Q E hr h => ⟨_, hb cdv A outer s H E hr, ?_⟩)
  · obtain ⟨a, dx, us, ds, Z, rfl, ha, hz, r, d, h⟩ := h
    by_cases e : ds.length = ps.length
    · simp [r.length, e]
    · unfold runI at h; rw [if_neg e] at h; exact h.elim
  · obtain ⟨a, dx, us, ds, Z, rfl, ha, hz, r, d, h⟩ := h
    have e : ds.length = ps.length := by
      by_cases e : ds.length = ps.length
      · exact e
      · unfold runI at h; rw [if_neg e] at h; exact h.elim
    unfold runI at h
    rw [if_pos e] at h
    have e0 : L2.start N (.ref a :: us) = some (.ref a) :: L2.start (N.drop 1) us := by
      unfold L2.start
      simp only [List.map_cons, List.length_cons, List.cons_append, List.length_drop]
      congr 3
      omega
    have st1 := (start_sta (N := N.drop 1) r d).st
    have el : (N.drop 1).length = n := by simp [hn]
    rw [el] at st1
    have s0 : Sta K H Z (L2.start N (.ref a :: us)) (.me a (.obj c []) :: startS (n + 1 - 1) ds) [a] := ⟨by rw [e0]; exact .me ⟨rfl, hz, dx, [], ha, .nil⟩ (by simp) st1, d⟩
    refine ⟨_, Z, [a], s0, ?_⟩
    have keep : ∀ {H' : Hp} {O' : Addr → Prop} {F' : List Addr}, Tr H Z [a] H' O' F' → ∀ b o, b ≠ a → H b = some o → H' b = some o := fun t b o hb hq => t.keep b o hq (by simpa using hb)
    cases q : body (.me a (.obj c []) :: startS (n + 1 - 1) ds) with
    | nx ρ' =>
      rw [q] at h
      intro σ' H' O' F' s' t
      have h' : (match meAt a ρ'[0]? with
        | .ok d => ∀ H', (∀ b o, b ≠ a → H b = some o → H' b = some o) → RepK K H' Z a d → Q .non H'
        | .exc x => ∀ H', (∀ b o, b ≠ a → H b = some o → H' b = some o) → E (.ref (He.ga K x)) none H'
        | .bad => False) := h
      unfold meAt at h'
      split at h'
      · rename_i d0 e1
        split at e1
        · rename_i b d1 e2
          by_cases hb : b = a
          · rw [if_pos hb] at e1
            cases e1
            subst hb
            obtain ⟨_, _, o2, k2⟩ := s'.st.getM e2
            exact h' H' (keep t) (k2.less fun y hy => (t.own y hy).elim id fun z => by
              have : y = b := by simpa using z
              subst this; exact o2)
          · rw [if_neg hb] at e1; cases e1
        · cases e1
      · rename_i e1
        split at e1
        · split at e1 <;> cases e1
        · cases e1
      · exact h'.elim
    | rt x => rw [q] at h; exact h.elim
    | exc c ρ' => rw [q] at h; exact fun σ' H' O' F' s' t => h H' (keep t)
    | bk ρ' => rw [q] at h; exact h.elim
    | ct ρ' => rw [q] at h; exact h.elim
    | bad => rw [q] at h; exact h.elim
end
end PP

namespace PP
open PySem PySem.Spec PyProof.Rows L2
open Res (ok exc bad)

/-! ### whole numbers -/
def dSub : D → D → Option D
  | .int i, .int j => some (.int (i - j))
  | _, _ => none
def mulOk (i j : Int) : Bool := decide ((-(2 ^ 64) < i ∧ i < 2 ^ 64) ∨ (-(2 ^ 64) < j ∧ j < 2 ^ 64))
def dMul : D → D → Option D
  | .int i, .int j => if mulOk i j then some (.int (i * j)) else none
  | _, _ => none
def dMod : D → D → Option D
  | .int i, .int j => if 0 < j then some (.int (i % j)) else none
  | _, _ => none
def dDiv : D → D → Option D
  | .int i, .int j => if 0 < j ∧ j < 1073741824 then some (.int (i / j)) else none
  | _, _ => none
def dPow : D → D → Option D
  | .int i, .int j => if 0 ≤ j ∧ j ≤ 1000 ∧ i.natAbs < 2 ^ 64 then some (.int (i ^ j.toNat)) else none
  | _, _ => none
def dLt : D → D → Option D
  | .int i, .int j => some (.bl (decide (i < j)))
  | _, _ => none
def dLe : D → D → Option D
  | .int i, .int j => some (.bl (decide (i ≤ j)))
  | _, _ => none
def dGt : D → D → Option D
  | .int i, .int j => some (.bl (decide (j < i)))
  | _, _ => none
def dGe : D → D → Option D
  | .int i, .int j => some (.bl (decide (j ≤ i)))
  | _, _ => none
section
variable {K : PySem.W.Frag}
theorem op2_int {g : Int → Int → V} {C : Int → Int → Prop} {h : D → D → Option D} (hh : ∀ dx dy, (∃ i j d, dx = .int i ∧ dy = .int j ∧ C i j ∧ h dx dy = some d ∧ ∀ H O, Rep K H O (g i j) d) ∨ h dx dy = none) : Op2 K (rI C g) h := by
  intro H O x y dx dy Q dm rx ry q
  rcases hh dx dy with ⟨i, j, d, rfl, rfl, c, e, r⟩ | e
  · rw [e] at q
    exact ⟨i, j, rx.int, ry.int, c, q _ H (Same.refl H) (r H O)⟩
  · rw [e] at q; exact q.elim
theorem op2_int0 {g : Int → Int → V} {h : D → D → Option D} (hh : ∀ dx dy, (∃ i j d, dx = .int i ∧ dy = .int j ∧ h dx dy = some d ∧ ∀ H O, Rep K H O (g i j) d) ∨ h dx dy = none) : Op2 K (rI0 g) h := by
  intro H O x y dx dy Q dm rx ry q
  rcases hh dx dy with ⟨i, j, d, rfl, rfl, e, r⟩ | e
  · rw [e] at q
    exact ⟨i, j, rx.int, ry.int, q _ H (Same.refl H) (r H O)⟩
  · rw [e] at q; exact q.elim
theorem o_sub : Op2 K (rI0 fun i j => .int (i - j)) dSub := op2_int0 fun dx dy => by
  unfold dSub; split
  · exact .inl ⟨_, _, _, rfl, rfl, rfl, fun _ _ => .int _⟩
  · exact .inr rfl
theorem o_lt : Op2 K (rI0 fun i j => .bl (decide (i < j))) dLt := op2_int0 fun dx dy => by
  unfold dLt; split
  · exact .inl ⟨_, _, _, rfl, rfl, rfl, fun _ _ => .bl _⟩
  · exact .inr rfl
theorem o_le : Op2 K (rI0 fun i j => .bl (decide (i ≤ j))) dLe := op2_int0 fun dx dy => by
  unfold dLe; split
  · exact .inl ⟨_, _, _, rfl, rfl, rfl, fun _ _ => .bl _⟩
  · exact .inr rfl
theorem o_gt : Op2 K (rI0 fun i j => .bl (decide (j < i))) dGt := op2_int0 fun dx dy => by
  unfold dGt; split
  · exact .inl ⟨_, _, _, rfl, rfl, rfl, fun _ _ => .bl _⟩
  · exact .inr rfl
theorem o_ge : Op2 K (rI0 fun i j => .bl (decide (j ≤ i))) dGe := op2_int0 fun dx dy => by
  unfold dGe; split
  · exact .inl ⟨_, _, _, rfl, rfl, rfl, fun _ _ => .bl _⟩
  · exact .inr rfl
theorem o_mul : Op2 K (rI CMul fun i j => .int (i * j)) dMul := op2_int fun dx dy => by
  unfold dMul; split
  · rename_i i j
    by_cases c : mulOk i j = true
    · rw [if_pos c]; exact .inl ⟨i, j, _, rfl, rfl, (show (-(2 ^ 64) < i ∧ i < 2 ^ 64) ∨ (-(2 ^ 64) < j ∧ j < 2 ^ 64) from of_decide_eq_true c), rfl, fun _ _ => .int _⟩
    · rw [if_neg c]; exact .inr rfl
  · exact .inr rfl
theorem o_mod : Op2 K (rI (fun _ j => 0 < j) fun i j => .int (i % j)) dMod := op2_int fun dx dy => by
  unfold dMod; split
  · rename_i i j
    by_cases c : 0 < j
    · rw [if_pos c]; exact .inl ⟨_, _, _, rfl, rfl, c, rfl, fun _ _ => .int _⟩
    · rw [if_neg c]; exact .inr rfl
  · exact .inr rfl
theorem o_div : Op2 K (rI CDiv fun i j => .int (i / j)) dDiv := op2_int fun dx dy => by
  unfold dDiv; split
  · rename_i i j
    by_cases c : 0 < j ∧ j < 1073741824
    · rw [if_pos c]; exact .inl ⟨_, _, _, rfl, rfl, c, rfl, fun _ _ => .int _⟩
    · rw [if_neg c]; exact .inr rfl
  · exact .inr rfl
theorem o_pow : Op2 K (rI CPow fun i j => .int (i ^ j.toNat)) dPow := op2_int fun dx dy => by
  unfold dPow; split
  · rename_i i j
    by_cases c : 0 ≤ j ∧ j ≤ 1000 ∧ i.natAbs < 2 ^ 64
    · rw [if_pos c]; exact .inl ⟨_, _, _, rfl, rfl, ⟨c.1, by omega, c.2.2⟩, rfl, fun _ _ => .int _⟩
    · rw [if_neg c]; exact .inr rfl
  · exact .inr rfl
end

/-! ### + of numbers, texts, lists, tuples -/
def dAdd : D → D → Option D
  | .int i, .int j => some (.int (i + j))
  | .str x, .str y => if x.length + y.length ≤ sizeLine then some (.str (x ++ y)) else none
  | .lst xs, .lst ys => if xs.length + ys.length ≤ sizeLine then some (.lst (xs ++ ys)) else none
  | .tup xs, .tup ys => if xs.length + ys.length ≤ sizeLine then some (.tup (xs ++ ys)) else none
  | _, _ => none
def rCatS : R2 := fun x y H Q => ∃ l b xs zs, x = .ref l ∧ y = .ref b ∧ Rd H l (.lst xs) ∧ Rd H b (.lst zs) ∧ xs.length + zs.length ≤ sizeLine ∧ ∀ p, H p = none → Q (.ref p) (upd H p (.lst (xs ++ zs)))
section
variable {X : Cx}
theorem op_catS : OpR X (binaryOp .Add) rCatS := by
  intro pins s σ H x y v u Q I rx ry h
  obtain ⟨l, b, xs, zs, rfl, rfl, hH, hB, hz, q⟩ := h
  cases rx
  cases ry
  obtain ⟨hl, its, n, r, e⟩ := hH.ok I.hok
  obtain ⟨hl2, its2, n2, r2, e2⟩ := hB.ok I.hok
  have l1 := r.length
  have l2 := r2.length
  refine PySem.P.add_list e e2 ?_ (by rw [List.size_toArray, List.size_toArray]; omega)
  have ea : its.toArray ++ its2.toArray = (its ++ its2).toArray := by simp
  rw [ea]
  exact ⟨.ref _, _, I.lnew (t' := s.toks) (r.append r2) (by rw [List.length_append]; omega), rfl, q _ I.fresh⟩
def rAddA (K : PySem.W.Frag) : R2 := fun x y H Q => (∃ i j, x = .int i ∧ y = .int j ∧ Q (.int (i + j)) H) ∨ (∃ i j, x = .str i ∧ y = .str j ∧ i.length + j.length ≤ sizeLine ∧ Q (.str (i ++ j)) H) ∨ rCatS x y H Q ∨ rCatA K x y H Q
theorem op_addA : OpR X (binaryOp .Add) (rAddA X.K) := op_add.or (op_add_str.or (op_catS.or op_catA))
theorem o_add {K : PySem.W.Frag} : Op2 K (rAddA K) dAdd := by
  intro H O x y dx dy Q dm rx ry q
  unfold dAdd at q
  split at q
  · exact .inl ⟨_, _, rx.int, ry.int, q _ H (Same.refl H) (.int _)⟩
  · rename_i a b
    by_cases c : a.length + b.length ≤ sizeLine
    · rw [if_pos c] at q; exact .inr (.inl ⟨_, _, rx.str, ry.str, c, q _ H (Same.refl H) (.str _)⟩)
    · rw [if_neg c] at q; exact q.elim
  · rename_i xs ys
    by_cases c : xs.length + ys.length ≤ sizeLine
    · rw [if_pos c] at q
      obtain ⟨a, vs, rfl, h1, z1, r1⟩ := rx.lstR
      obtain ⟨b, ws, rfl, h2, z2, r2⟩ := ry.lstR
      have hz : vs.length + ws.length ≤ sizeLine := by rw [r1.length, r2.length]; exact c
      exact .inr (.inr (.inl ⟨a, b, vs, ws, rfl, rfl, h1, h2, hz, fun p n => q _ _ (same_new n) (.lst (.inl upd_same) (fun h => (dm p h).1 n) (by rw [List.length_append]; exact hz) ((r1.append r2).same (same_new n)))⟩))
    · rw [if_neg c] at q; exact q.elim
  · rename_i xs ys
    by_cases c : xs.length + ys.length ≤ sizeLine
    · rw [if_pos c] at q
      obtain ⟨a, vs, rfl, h1, z1, r1⟩ := rx.tup
      obtain ⟨b, ws, rfl, h2, z2, r2⟩ := ry.tup
      have hz : vs.length + ws.length ≤ sizeLine := by rw [r1.length, r2.length]; exact c
      refine .inr (.inr (.inr ⟨a, b, vs, ws, rfl, rfl, h1, h2, hz, fun e => ?_, fun _ e => ?_, fun _ _ p n => q _ _ (same_new n) (rep_newT n (by rw [List.length_append]; exact hz) (r1.append r2))⟩))
      · subst e
        cases r1
        exact q _ H (Same.refl H) (.tup h2 z2 r2)
      · subst e
        cases r2
        refine q _ H (Same.refl H) ?_
        rw [List.append_nil]
        exact .tup h1 z1 r1
    · rw [if_neg c] at q; exact q.elim
  · exact q.elim
/-- xs + ys, a new list that may be changed -/
def dCat : D → D → Option D
  | .lst xs, .lst ys => if xs.length + ys.length ≤ sizeLine then some (.lst (xs ++ ys)) else none
  | _, _ => none
theorem o_catN {K : PySem.W.Frag} : Op2N K rCatS dCat := by
  intro H O x y dx dy Q dm rx ry q
  unfold dCat at q
  split at q
  · rename_i xs ys
    by_cases c : xs.length + ys.length ≤ sizeLine
    · rw [if_pos c] at q
      obtain ⟨a, vs, rfl, h1, z1, r1⟩ := rx.lstR
      obtain ⟨b, ws, rfl, h2, z2, r2⟩ := ry.lstR
      have hz : vs.length + ws.length ≤ sizeLine := by rw [r1.length, r2.length]; exact c
      exact ⟨a, b, vs, ws, rfl, rfl, h1, h2, hz, fun p n => q _ p _ (same_new n) n (.newL n (by rw [List.length_append]; exact hz) (r1.append r2))⟩
    · rw [if_neg c] at q; exact q.elim
  · exact q.elim
end

/-! ### == of data -/
mutual
def toPD : D → Option PyData
  | .non => some .none
  | .bl b => some (.bool b)
  | .int i => some (.int i)
  | .str x => some (.str x)
  | .tup xs => (toPDs xs).map .tuple
  | .lst xs => (toPDs xs).map .list
  | .kl xs => (toPDs xs).map .list
  | _ => none
def toPDs : List D → Option (List PyData)
  | [] => some []
  | x :: xs => (toPD x).bind fun p => (toPDs xs).map fun ps => p :: ps
end
section
variable {K : PySem.W.Frag} {H : Hp} {O : Addr → Prop}
mutual
theorem Rep.dp : ∀ {v d p}, Rep K H O v d → toPD d = some p → Dp K H v p
  | _, _, _, .non, e => by simp [toPD] at e; subst e; exact .non
  | _, _, _, .bl b, e => by simp [toPD] at e; subst e; exact .bl b
  | _, _, _, .int i, e => by simp [toPD] at e; subst e; exact .int i
  | _, _, _, .str x, e => by simp [toPD] at e; subst e; exact .str x
  | _, _, _, .ty n, e => by simp [toPD] at e
  | _, _, _, .tup h z r, e => by
    simp [toPD] at e
    obtain ⟨ps, e1, e2⟩ := e
    subst e2
    exact .tup h (Reps.dp r e1)
  | _, _, _, .lst h n z r, e => by
    simp [toPD] at e
    obtain ⟨ps, e1, e2⟩ := e
    subst e2
    exact .lst (.inl h) (Reps.dp r e1)
  | _, _, _, .kl h z r, e => by
    simp [toPD] at e
    obtain ⟨ps, e1, e2⟩ := e
    subst e2
    exact .lst h.sql (Reps.dp r e1)
  | _, _, _, .obj h n r, e => by simp [toPD] at e
  | _, _, _, .dct h n z q r, e => by simp [toPD] at e
theorem Reps.dp : ∀ {vs ds ps}, Reps K H O vs ds → toPDs ds = some ps → DpAll K H vs ps
  | _, _, _, .nil, e => by simp [toPDs] at e; subst e; exact .nil
  | _, _, _, .cons r t, e => by
    simp only [toPDs, Option.bind_eq_some_iff, Option.map_eq_some_iff] at e
    obtain ⟨p, e1, ps, e2, e3⟩ := e
    subst e3
    exact .cons (Rep.dp r e1) (Reps.dp t e2)
end
theorem RepB.dp {v : V} {d : D} {p : PyData} (r : RepB K H O v d) (e : toPD d = some p) : Dp K H v p := by
  rcases r with r | ⟨a, e1, r⟩
  · exact r.dp e
  · subst e1
    cases d with
    | lst ds =>
      obtain ⟨vs, e2, z, r⟩ := r
      simp [toPD] at e
      obtain ⟨ps, e3, e4⟩ := e
      subst e4
      exact .lst (.of e2) (r.dp e3)
    | obj c gs => simp [toPD] at e
    | dct kvs => simp [toPD] at e
    | _ => exact r.elim
end
def deepEq (a b : D) : Option Bool := (toPD a).bind fun p => (toPD b).bind fun q => if SeqAt.shaped p && SeqAt.shaped q then some (PyData.eqv p q) else none
def dEq : D → D → Option D
  | .int i, .int j => some (.bl (decide (i = j)))
  | .str x, .str y => some (.bl (decide (x = y)))
  | .bl x, .bl y => some (.bl (decide (x = y)))
  | .non, .non => some (.bl true)
  | .non, .int _ => some (.bl false)
  | .non, .str _ => some (.bl false)
  | .int _, .non => some (.bl false)
  | .str _, .non => some (.bl false)
  | a, b => (deepEq a b).map .bl
def dNe (a b : D) : Option D := match dEq a b with
  | some (.bl k) => some (.bl (!k))
  | _ => none
section
variable {X : Cx}
def rEqA (K : PySem.W.Frag) : R2 := fun x y H Q => rEq x y H Q ∨ rEqD K x y H Q
def rNeA (K : PySem.W.Frag) : R2 := fun x y H Q => rNe x y H Q ∨ rNeD K x y H Q
theorem op_eqA (hu : X.A.units + 64 < cLine) : OpR X (compareOp .Eq) (rEqA X.K) := op_eq.or (op_eqD hu)
theorem op_neA (hu : X.A.units + 64 < cLine) : OpR X (compareOp .NotEq) (rNeA X.K) := op_ne.or (op_neD hu)
theorem dEq_cases {K : PySem.W.Frag} {H : Hp} {O : Addr → Prop} {x y : V} {dx dy d : D} (rx : RepB K H O x dx) (ry : RepB K H O y dy) (e : dEq dx dy = some d) :
    ∃ k, d = .bl k ∧ ((scal x y = true ∧ k = decide (x = y)) ∨ ∃ p q, Dp K H x p ∧ Dp K H y q ∧ SeqAt.shaped p = true ∧ SeqAt.shaped q = true ∧ k = PyData.eqv p q) := by
  unfold dEq at e
  split at e
  · cases e; rw [rx.int, ry.int]; exact ⟨_, rfl, .inl ⟨rfl, by simp⟩⟩
  · cases e; rw [rx.str, ry.str]; exact ⟨_, rfl, .inl ⟨rfl, by simp⟩⟩
  · cases e; rw [rx.bl, ry.bl]; exact ⟨_, rfl, .inl ⟨rfl, by simp⟩⟩
  · cases e; rw [rx.non, ry.non]; exact ⟨_, rfl, .inl ⟨rfl, by simp⟩⟩
  · cases e; rw [rx.non, ry.int]; exact ⟨_, rfl, .inl ⟨rfl, by simp⟩⟩
  · cases e; rw [rx.non, ry.str]; exact ⟨_, rfl, .inl ⟨rfl, by simp⟩⟩
  · cases e; rw [rx.int, ry.non]; exact ⟨_, rfl, .inl ⟨rfl, by simp⟩⟩
  · cases e; rw [rx.str, ry.non]; exact ⟨_, rfl, .inl ⟨rfl, by simp⟩⟩
  · obtain ⟨k, e1, e2⟩ := Option.map_eq_some_iff.mp e
    subst e2
    unfold deepEq at e1
    obtain ⟨p, e3, e1⟩ := Option.bind_eq_some_iff.mp e1
    obtain ⟨q, e4, e1⟩ := Option.bind_eq_some_iff.mp e1
    by_cases c : (SeqAt.shaped p && SeqAt.shaped q) = true
    · rw [if_pos c] at e1
      obtain ⟨c1, c2⟩ := Bool.and_eq_true_iff.mp c
      cases e1
      exact ⟨_, rfl, .inr ⟨p, q, rx.dp e3, ry.dp e4, c1, c2, rfl⟩⟩
    · rw [if_neg c] at e1; cases e1
theorem o_eq {K : PySem.W.Frag} : Op2 K (rEqA K) dEq := by
  intro H O x y dx dy Q dm rx ry q
  cases e : dEq dx dy with
  | none => rw [e] at q; exact q.elim
  | some d =>
    rw [e] at q
    obtain ⟨k, rfl, ⟨h1, rfl⟩ | ⟨p, p', h1, h2, h3, h4, rfl⟩⟩ := dEq_cases rx ry e
    · exact .inl ⟨h1, q _ H (Same.refl H) (.bl _)⟩
    · exact .inr ⟨p, p', h1, h2, h3, h4, q _ H (Same.refl H) (.bl _)⟩
theorem o_ne {K : PySem.W.Frag} : Op2 K (rNeA K) dNe := by
  intro H O x y dx dy Q dm rx ry q
  unfold dNe at q
  cases e : dEq dx dy with
  | none => rw [e] at q; exact q.elim
  | some d =>
    obtain ⟨k, rfl, ⟨h1, rfl⟩ | ⟨p, p', h1, h2, h3, h4, rfl⟩⟩ := dEq_cases rx ry e
    · rw [e] at q; exact .inl ⟨h1, q _ H (Same.refl H) (.bl _)⟩
    · rw [e] at q; exact .inr ⟨p, p', h1, h2, h3, h4, q _ H (Same.refl H) (.bl _)⟩
/-! ### in -/
def inSeq (d : D) (xs : List D) : Option Bool := (toPD d).bind fun p => (toPDs xs).bind fun ps => if SeqAt.shaped p && SeqAt.shaped (.list ps) then some (ps.any fun z => PyData.eqv z p) else none
def dIn : D → D → Option D
  | .str x, .str z => (match x.cps.toList with
    | [c] => some (.bl (decide (c ∈ z.cps.toList)))
    | _ => none)
  | d, .lst xs => (inSeq d xs).map .bl
  | d, .kl xs => (inSeq d xs).map .bl
  | d, .tup xs => (inSeq d xs).map .bl
  | _, _ => none
def dNotIn (a b : D) : Option D := match dIn a b with
  | some (.bl k) => some (.bl (!k))
  | _ => none
def rInT (K : PySem.W.Frag) : R2 := fun x y H Q => ∃ d ds, Dp K H x d ∧ Dp K H y (.tuple ds) ∧ SeqAt.shaped d = true ∧ SeqAt.shaped (.tuple ds) = true ∧ Q (.bl (ds.any fun z => PyData.eqv z d)) H
def rNotInT (K : PySem.W.Frag) : R2 := fun x y H Q => ∃ d ds, Dp K H x d ∧ Dp K H y (.tuple ds) ∧ SeqAt.shaped d = true ∧ SeqAt.shaped (.tuple ds) = true ∧ Q (.bl (!ds.any fun z => PyData.eqv z d)) H
theorem op_inT (hu : X.A.units + 65 < cLine) : OpR X (compareOp .In) (rInT X.K) := by
  intro pins s σ H x y v u Q I rx ry h
  obtain ⟨d, ds, hd, he, sd, se, q⟩ := h
  obtain ⟨as, r1⟩ := Dp.reads I d x v hd rx
  obtain ⟨bs, r2⟩ := Dp.reads I (.tuple ds) y u he ry
  exact SeqAt.in_tuple_reads r2 r1 (SeqAt.canLay_of_shaped se) (SeqAt.canLay_of_shaped sd) (room_in_shaped sd hu) ⟨.bl _, H, I, rfl, q⟩
theorem op_notInT (hu : X.A.units + 65 < cLine) : OpR X (compareOp .NotIn) (rNotInT X.K) := by
  intro pins s σ H x y v u Q I rx ry h
  obtain ⟨d, ds, hd, he, sd, se, q⟩ := h
  obtain ⟨as, r1⟩ := Dp.reads I d x v hd rx
  obtain ⟨bs, r2⟩ := Dp.reads I (.tuple ds) y u he ry
  exact SeqAt.notIn_tuple_reads r2 r1 (SeqAt.canLay_of_shaped se) (SeqAt.canLay_of_shaped sd) (room_in_shaped sd hu) ⟨.bl _, H, I, rfl, q⟩
def rInSign : R2 := fun x y H Q => ∃ (c : Nat) (z : Str), x = .str ⟨#[c]⟩ ∧ y = .str z ∧ Q (.bl (decide (c ∈ z.cps.toList))) H
def rNotInSign : R2 := fun x y H Q => ∃ (c : Nat) (z : Str), x = .str ⟨#[c]⟩ ∧ y = .str z ∧ Q (.bl (!decide (c ∈ z.cps.toList))) H
def rInA (K : PySem.W.Frag) : R2 := fun x y H Q => rInD K x y H Q ∨ rInT K x y H Q ∨ rInSign x y H Q
def rNotInA (K : PySem.W.Frag) : R2 := fun x y H Q => rNotInD K x y H Q ∨ rNotInT K x y H Q ∨ rNotInSign x y H Q
theorem op_inA (hu : X.A.units + 65 < cLine) : OpR X (compareOp .In) (rInA X.K) := (op_inD hu).or ((op_inT hu).or op_in_sign)
theorem op_notInA (hu : X.A.units + 65 < cLine) : OpR X (compareOp .NotIn) (rNotInA X.K) := (op_notInD hu).or ((op_notInT hu).or op_notIn_sign)
theorem shaped_tuple {ps : List PyData} (h : SeqAt.shaped (.list ps) = true) : SeqAt.shaped (.tuple ps) = true := by
  unfold SeqAt.shaped at h ⊢
  simpa [PyData.canLay0, PyData.depth] using h
theorem inSeq_ok {d : D} {xs : List D} {b : Bool} (h : inSeq d xs = some b) : ∃ p ps, toPD d = some p ∧ toPDs xs = some ps ∧ SeqAt.shaped p = true ∧ SeqAt.shaped (.list ps) = true ∧ b = ps.any fun z => PyData.eqv z p := by
  unfold inSeq at h
  obtain ⟨p, e1, h⟩ := Option.bind_eq_some_iff.mp h
  obtain ⟨ps, e2, h⟩ := Option.bind_eq_some_iff.mp h
  by_cases c : (SeqAt.shaped p && SeqAt.shaped (.list ps)) = true
  · rw [if_pos c] at h
    obtain ⟨c1, c2⟩ := Bool.and_eq_true_iff.mp c
    cases h
    exact ⟨p, ps, e1, e2, c1, c2, rfl⟩
  · rw [if_neg c] at h; cases h
theorem dIn_cases {K : PySem.W.Frag} {H : Hp} {O : Addr → Prop} {x y : V} {dx dy d : D} (rx : RepB K H O x dx) (ry : RepB K H O y dy) (e : dIn dx dy = some d) :
    ∃ k, d = .bl k ∧ ((∃ p ps, Dp K H x p ∧ (Dp K H y (.list ps) ∨ Dp K H y (.tuple ps)) ∧ SeqAt.shaped p = true ∧ SeqAt.shaped (.list ps) = true ∧ k = ps.any fun z => PyData.eqv z p) ∨ ∃ c z, x = .str ⟨#[c]⟩ ∧ y = .str z ∧ k = decide (c ∈ z.cps.toList)) := by
  unfold dIn at e
  split at e
  · rename_i x' z
    split at e
    · rename_i c hc
      cases e
      have ex : x' = ⟨#[c]⟩ := by
        obtain ⟨a⟩ := x'
        have : a = #[c] := by
          have h2 : a.toList = [c] := hc
          calc a = a.toList.toArray := by simp
            _ = #[c] := by rw [h2]
        rw [this]
      exact ⟨_, rfl, .inr ⟨c, z, by rw [rx.str, ex], ry.str, rfl⟩⟩
    · cases e
  · obtain ⟨k, e1, e2⟩ := Option.map_eq_some_iff.mp e
    obtain ⟨p, ps, h1, h2, h3, h4, h5⟩ := inSeq_ok e1
    exact ⟨k, e2.symm, .inl ⟨p, ps, rx.dp h1, .inl (ry.dp (by simp [toPD, h2])), h3, h4, h5⟩⟩
  · obtain ⟨k, e1, e2⟩ := Option.map_eq_some_iff.mp e
    obtain ⟨p, ps, h1, h2, h3, h4, h5⟩ := inSeq_ok e1
    exact ⟨k, e2.symm, .inl ⟨p, ps, rx.dp h1, .inl (ry.dp (by simp [toPD, h2])), h3, h4, h5⟩⟩
  · obtain ⟨k, e1, e2⟩ := Option.map_eq_some_iff.mp e
    obtain ⟨p, ps, h1, h2, h3, h4, h5⟩ := inSeq_ok e1
    exact ⟨k, e2.symm, .inl ⟨p, ps, rx.dp h1, .inr (ry.dp (by simp [toPD, h2])), h3, h4, h5⟩⟩
  · cases e
theorem o_in {K : PySem.W.Frag} : Op2 K (rInA K) dIn := by
  intro H O x y dx dy Q dm rx ry q
  cases e : dIn dx dy with
  | none => rw [e] at q; exact q.elim
  | some d =>
    rw [e] at q
    obtain ⟨k, rfl, ⟨p, ps, h1, h2 | h2, h3, h4, rfl⟩ | ⟨c, z, h1, h2, rfl⟩⟩ := dIn_cases rx ry e
    · exact .inl ⟨p, ps, h1, h2, h3, h4, q _ H (Same.refl H) (.bl _)⟩
    · exact .inr (.inl ⟨p, ps, h1, h2, h3, shaped_tuple h4, q _ H (Same.refl H) (.bl _)⟩)
    · exact .inr (.inr ⟨c, z, h1, h2, q _ H (Same.refl H) (.bl _)⟩)
theorem o_notIn {K : PySem.W.Frag} : Op2 K (rNotInA K) dNotIn := by
  intro H O x y dx dy Q dm rx ry q
  unfold dNotIn at q
  cases e : dIn dx dy with
  | none => rw [e] at q; exact q.elim
  | some d =>
    obtain ⟨k, rfl, ⟨p, ps, h1, h2 | h2, h3, h4, rfl⟩ | ⟨c, z, h1, h2, rfl⟩⟩ := dIn_cases rx ry e
    · rw [e] at q; exact .inl ⟨p, ps, h1, h2, h3, h4, q _ H (Same.refl H) (.bl _)⟩
    · rw [e] at q; exact .inr (.inl ⟨p, ps, h1, h2, h3, shaped_tuple h4, q _ H (Same.refl H) (.bl _)⟩)
    · rw [e] at q; exact .inr (.inr ⟨c, z, h1, h2, q _ H (Same.refl H) (.bl _)⟩)
/-! ### is None -/
def dIsN : D → D → Option D
  | .non, .non => some (.bl true)
  | .obj _ _, .non => some (.bl false)
  | .lst _, .non => some (.bl false)
  | .tup _, .non => some (.bl false)
  | .int _, .non => some (.bl false)
  | .str _, .non => some (.bl false)
  | .bl _, .non => some (.bl false)
  | _, _ => none
def dNotN (a b : D) : Option D := match dIsN a b with
  | some (.bl k) => some (.bl (!k))
  | _ => none
def rIsN : R2 := fun x y H Q => y = .non ∧ Q (.bl (decide (x = .non))) H
def rNotN : R2 := fun x y H Q => y = .non ∧ Q (.bl (!decide (x = .non))) H
theorem dIsN_ok {K : PySem.W.Frag} {H : Hp} {O : Addr → Prop} {x y : V} {dx dy d : D} (rx : RepB K H O x dx) (ry : RepB K H O y dy) (e : dIsN dx dy = some d) : y = .non ∧ d = .bl (decide (x = .non)) := by
  unfold dIsN at e
  split at e <;> cases e
  · rw [rx.non, ry.non]; exact ⟨rfl, rfl⟩
  · obtain ⟨a, _, _, e1, _⟩ := rx.obj; rw [e1, ry.non]; exact ⟨rfl, rfl⟩
  · obtain ⟨a, _, e1, _⟩ := rx.lst; rw [e1, ry.non]; exact ⟨rfl, rfl⟩
  · obtain ⟨a, _, e1, _⟩ := rx.tup; rw [e1, ry.non]; exact ⟨rfl, rfl⟩
  · rw [rx.int, ry.non]; exact ⟨rfl, rfl⟩
  · rw [rx.str, ry.non]; exact ⟨rfl, rfl⟩
  · rw [rx.bl, ry.non]; exact ⟨rfl, rfl⟩
theorem o_isN {K : PySem.W.Frag} : Op2 K rIsN dIsN := by
  intro H O x y dx dy Q dm rx ry q
  cases e : dIsN dx dy with
  | none => rw [e] at q; exact q.elim
  | some d =>
    rw [e] at q
    obtain ⟨h1, rfl⟩ := dIsN_ok rx ry e
    exact ⟨h1, q _ H (Same.refl H) (.bl _)⟩
theorem o_notN {K : PySem.W.Frag} : Op2 K rNotN dNotN := by
  intro H O x y dx dy Q dm rx ry q
  unfold dNotN at q
  cases e : dIsN dx dy with
  | none => rw [e] at q; exact q.elim
  | some d =>
    obtain ⟨h1, rfl⟩ := dIsN_ok rx ry e
    rw [e] at q
    exact ⟨h1, q _ H (Same.refl H) (.bl _)⟩
/-! ### o[i] -/
def dIx : D → D → Option D
  | .lst xs, .int i => atI xs i
  | .kl xs, .int i => atI xs i
  | .tup xs, .int i => atI xs i
  | .str z, .int i => if z.length ≤ sizeLine then (atI z.cps.toList i).map fun c => .str ⟨#[c]⟩ else none
  | _, _ => none
theorem Reps.atI {K : PySem.W.Frag} {H : Hp} {O : Addr → Prop} {vs : List V} {ds : List D} {i : Int} {d : D} (r : Reps K H O vs ds) (h : L2.atI ds i = some d) : ∃ v, L2.atI vs i = some v ∧ Rep K H O v d := by
  unfold L2.atI at h ⊢
  rw [r.length]
  obtain ⟨j, e1, e2⟩ := Option.bind_eq_some_iff.mp h
  obtain ⟨v, e3, e4⟩ := r.get e2
  exact ⟨v, by rw [e1]; exact e3, e4⟩
theorem o_ix {K : PySem.W.Frag} : Op2 K (rIx K) dIx := by
  intro H O x y dx dy Q dm rx ry q
  cases e : dIx dx dy with
  | none => rw [e] at q; exact q.elim
  | some d =>
    rw [e] at q
    unfold dIx at e
    split at e
    · obtain ⟨a, vs, rfl, h1, z, r⟩ := rx.lst
      obtain ⟨v, e1, rv⟩ := r.atI e
      exact .inl ⟨a, vs, _, v, rfl, ry.int, h1, e1, q _ H (Same.refl H) rv⟩
    · obtain ⟨a, vs, rfl, h1, z, r⟩ := rx.kl
      obtain ⟨v, e1, rv⟩ := r.atI e
      exact .inl ⟨a, vs, _, v, rfl, ry.int, h1, e1, q _ H (Same.refl H) rv⟩
    · obtain ⟨a, vs, rfl, h1, z, r⟩ := rx.tup
      obtain ⟨v, e1, rv⟩ := r.atI e
      exact .inr (.inl ⟨a, vs, _, v, rfl, ry.int, h1, e1, q _ H (Same.refl H) rv⟩)
    · rename_i z i
      by_cases c : z.length ≤ sizeLine
      · rw [if_pos c] at e
        obtain ⟨c', e1, e2⟩ := Option.map_eq_some_iff.mp e
        subst e2
        exact .inr (.inr ⟨z, i, c', rx.str, ry.int, c, e1, q _ H (Same.refl H) (.str _)⟩)
      · rw [if_neg c] at e; cases e
    · cases e
/-! ### o[i:j] -/
def cutD (xs : List D) (lo hi : Option Int) : List D := (xs.drop (HT.sIx xs.length 0 lo)).take (HT.sIx xs.length xs.length hi - HT.sIx xs.length 0 lo)
def dSl : D → Option Int → Option Int → Option D
  | .lst xs, lo, hi => some (.lst (cutD xs lo hi))
  | .kl xs, lo, hi => some (.lst (cutD xs lo hi))
  | .tup xs, lo, hi => some (.tup (cutD xs lo hi))
  | .str z, lo, hi => if z.length ≤ sizeLine then some (.str (cutS z lo hi)) else none
  | _, _, _ => none
def rSlA' (K : PySem.W.Frag) : V → Option Int → Option Int → Hp → VK → Prop := fun x lo hi H Q => rSlL K x lo hi H Q ∨ rSlA K x lo hi H Q ∨ rSlS x lo hi H Q
theorem sl_any : SlR X (rSlA' X.K) := sl_list.or (sl_tupA.or sl_str)
theorem Reps.cut {K : PySem.W.Frag} {H : Hp} {O : Addr → Prop} {vs : List V} {ds : List D} (r : Reps K H O vs ds) (lo hi : Option Int) : Reps K H O (cutV vs lo hi) (cutD ds lo hi) := by
  unfold cutV cutD
  rw [r.length]
  exact (r.drop _).take _
theorem cut_whole {xs : List D} {lo hi : Option Int} (h : HT.sIx xs.length 0 lo = 0 ∧ HT.sIx xs.length xs.length hi = xs.length) : cutD xs lo hi = xs := by
  unfold cutD
  rw [h.1, h.2]
  simp
theorem s_any {K : PySem.W.Frag} : Sl3 K (rSlA' K) dSl := by
  intro H O x dx lo hi Q dm rx q
  unfold dSl at q
  split at q
  · obtain ⟨a, vs, rfl, h1, z, r⟩ := rx.lst
    exact .inl ⟨a, vs, rfl, h1, fun p n => q _ _ (same_new n) (.lst (.inl upd_same) (fun h => (dm p h).1 n) (Nat.le_trans (cutV_length _ _ _) z) ((r.cut _ _).same (same_new n)))⟩
  · obtain ⟨a, vs, rfl, h1, z, r⟩ := rx.kl
    exact .inl ⟨a, vs, rfl, h1, fun p n => q _ _ (same_new n) (.lst (.inl upd_same) (fun h => (dm p h).1 n) (Nat.le_trans (cutV_length _ _ _) z) ((r.cut _ _).same (same_new n)))⟩
  · rename_i xs
    obtain ⟨a, vs, rfl, h1, z, r⟩ := rx.tup
    refine .inr (.inl ⟨a, vs, rfl, h1, fun w => ?_, fun _ p n => q _ _ (same_new n) (rep_newT n (Nat.le_trans (cutV_length _ _ _) z) (r.cut _ _))⟩)
    rw [r.length] at w
    rw [cut_whole w] at q
    exact q _ H (Same.refl H) (.tup h1 z r)
  · rename_i z
    by_cases c : z.length ≤ sizeLine
    · rw [if_pos c] at q; exact .inr (.inr ⟨z, rx.str, c, q _ H (Same.refl H) (.str _)⟩)
    · rw [if_neg c] at q; exact q.elim
  · exact q.elim
def dSlN : D → Option Int → Option Int → Option D
  | .lst xs, lo, hi => some (.lst (cutD xs lo hi))
  | .kl xs, lo, hi => some (.lst (cutD xs lo hi))
  | _, _, _ => none
theorem s_listN {K : PySem.W.Frag} : Sl3N K (rSlL K) dSlN := by
  intro H O x dx lo hi Q dm rx q
  unfold dSlN at q
  split at q
  · obtain ⟨a, vs, rfl, h1, z, r⟩ := rx.lst
    exact ⟨a, vs, rfl, h1, fun p n => q _ p _ (same_new n) n (.newL n (Nat.le_trans (cutV_length _ _ _) z) (r.cut _ _))⟩
  · obtain ⟨a, vs, rfl, h1, z, r⟩ := rx.kl
    exact ⟨a, vs, rfl, h1, fun p n => q _ p _ (same_new n) n (.newL n (Nat.le_trans (cutV_length _ _ _) z) (r.cut _ _))⟩
  · exact q.elim
end
end PP

namespace PP
open PySem PySem.Spec PyProof.Rows L2
open Res (ok exc bad)
section
variable {K : PySem.W.Frag} {H : Hp} {O : Addr → Prop}
theorem RepBs.one {vs : List V} {d : D} (r : RepBs K H O vs [d]) : ∃ v, vs = [v] ∧ RepB K H O v d := by
  cases r with
  | cons r t => cases t; exact ⟨_, rfl, r⟩
theorem RepBs.two {vs : List V} {d e : D} (r : RepBs K H O vs [d, e]) : ∃ v u, vs = [v, u] ∧ RepB K H O v d ∧ RepB K H O u e := by
  cases r with
  | cons r t =>
    obtain ⟨u, e1, r2⟩ := t.one
    subst e1
    exact ⟨_, _, rfl, r, r2⟩
end
/-! ### len, abs, int, tuple, list -/
def dLen : List D → Option D
  | [.lst xs] => some (.int xs.length)
  | [.kl xs] => some (.int xs.length)
  | [.tup xs] => some (.int xs.length)
  | [.str z] => if z.length ≤ sizeLine then some (.int z.length) else none
  | _ => none
theorem c_len {K : PySem.W.Frag} : Cl1 K (fun xs H Q => ∃ x n, xs = [x] ∧ LenV K x H n ∧ Q (.int n) H) dLen := by
  intro H O vs ds Q dm rs q
  unfold dLen at q
  split at q
  · obtain ⟨v, rfl, r⟩ := rs.one
    obtain ⟨a, us, rfl, h, z, r2⟩ := r.lst
    exact ⟨_, us.length, rfl, .inl ⟨us, h, rfl⟩, by rw [r2.length]; exact q _ H (Same.refl H) (.int _)⟩
  · obtain ⟨v, rfl, r⟩ := rs.one
    obtain ⟨a, us, rfl, h, z, r2⟩ := r.kl
    exact ⟨_, us.length, rfl, .inl ⟨us, h, rfl⟩, by rw [r2.length]; exact q _ H (Same.refl H) (.int _)⟩
  · obtain ⟨v, rfl, r⟩ := rs.one
    obtain ⟨a, us, rfl, h, z, r2⟩ := r.tup
    exact ⟨_, us.length, rfl, .inr ⟨us, h, rfl⟩, by rw [r2.length]; exact q _ H (Same.refl H) (.int _)⟩
  · rename_i z
    by_cases c : z.length ≤ sizeLine
    · rw [if_pos c] at q
      obtain ⟨v, rfl, r⟩ := rs.one
      have ev := r.str
      subst ev
      exact ⟨.str z, z.length, rfl, ⟨c, rfl⟩, q _ H (Same.refl H) (.int _)⟩
    · rw [if_neg c] at q; exact q.elim
  · exact q.elim
def dAbs : List D → Option D
  | [.int i] => some (.int (if i < 0 then -i else i))
  | _ => none
theorem c_abs {K : PySem.W.Frag} : Cl1 K (fun xs H Q => ∃ i, xs = [.int i] ∧ Q (.int (if i < 0 then -i else i)) H) dAbs := by
  intro H O vs ds Q dm rs q
  unfold dAbs at q
  split at q
  · obtain ⟨v, rfl, r⟩ := rs.one
    rw [r.int]
    exact ⟨_, rfl, q _ H (Same.refl H) (.int _)⟩
  · exact q.elim
def dInt : List D → Option D
  | [.int i] => some (.int i)
  | [.bl b] => some (.int (if b then 1 else 0))
  | _ => none
theorem c_int {K : PySem.W.Frag} : Cl1 K (fun xs H Q => (∃ i, xs = [.int i] ∧ Q (.int i) H) ∨ ∃ k, xs = [.bl k] ∧ Q (.int (if k then 1 else 0)) H) dInt := by
  intro H O vs ds Q dm rs q
  unfold dInt at q
  split at q
  · obtain ⟨v, rfl, r⟩ := rs.one
    rw [r.int]
    exact .inl ⟨_, rfl, q _ H (Same.refl H) (.int _)⟩
  · obtain ⟨v, rfl, r⟩ := rs.one
    rw [r.bl]
    exact .inr ⟨_, rfl, q _ H (Same.refl H) (.int _)⟩
  · exact q.elim
def dTuple : List D → Option D
  | [.lst xs] => some (.tup xs)
  | [.kl xs] => some (.tup xs)
  | [.tup xs] => some (.tup xs)
  | _ => none
theorem c_tuple {K : PySem.W.Frag} : Cl1 K (fun xs H Q => ∃ p ys, xs = [.ref p] ∧ ((SqL K H p ys ∧ ∀ l, H l = none → Q (.ref l) (upd H l (.tup ys))) ∨ (SqT K H p ys ∧ Q (.ref p) H))) dTuple := by
  intro H O vs ds Q dm rs q
  unfold dTuple at q
  split at q
  · obtain ⟨v, rfl, r⟩ := rs.one
    obtain ⟨a, us, rfl, h, z, r2⟩ := r.lst
    exact ⟨a, us, rfl, .inl ⟨h, fun p n => q _ _ (same_new n) (rep_newT n z r2)⟩⟩
  · obtain ⟨v, rfl, r⟩ := rs.one
    obtain ⟨a, us, rfl, h, z, r2⟩ := r.kl
    exact ⟨a, us, rfl, .inl ⟨h, fun p n => q _ _ (same_new n) (rep_newT n z r2)⟩⟩
  · obtain ⟨v, rfl, r⟩ := rs.one
    obtain ⟨a, us, rfl, h, z, r2⟩ := r.tup
    exact ⟨a, us, rfl, .inr ⟨h, q _ H (Same.refl H) (.tup h z r2)⟩⟩
  · exact q.elim
def dList : List D → Option D
  | [.lst xs] => some (.lst xs)
  | [.kl xs] => some (.lst xs)
  | [.tup xs] => some (.lst xs)
  | _ => none
theorem c_list {K : PySem.W.Frag} : Cl1N K (fun xs H Q => ∃ p ys, xs = [.ref p] ∧ (SqL K H p ys ∨ SqT K H p ys) ∧ ∀ l, H l = none → Q (.ref l) (upd H l (.lst ys))) dList := by
  intro H O vs ds Q dm rs q
  unfold dList at q
  split at q
  · obtain ⟨v, rfl, r⟩ := rs.one
    obtain ⟨a, us, rfl, h, z, r2⟩ := r.lst
    exact ⟨a, us, rfl, .inl h, fun p n => q _ p _ (same_new n) n (.newL n z r2)⟩
  · obtain ⟨v, rfl, r⟩ := rs.one
    obtain ⟨a, us, rfl, h, z, r2⟩ := r.kl
    exact ⟨a, us, rfl, .inl h, fun p n => q _ p _ (same_new n) n (.newL n z r2)⟩
  · obtain ⟨v, rfl, r⟩ := rs.one
    obtain ⟨a, us, rfl, h, z, r2⟩ := r.tup
    exact ⟨a, us, rfl, .inr h, fun p n => q _ p _ (same_new n) n (.newL n z r2)⟩
  · exact q.elim
/-! ### all, any, sum -/
def asBs : List D → Option (List Bool)
  | [] => some []
  | x :: xs => (asB x).bind fun b => (asBs xs).map fun bs => b :: bs
theorem asBs_ok {K : PySem.W.Frag} {H : Hp} {O : Addr → Prop} : ∀ {vs : List V} {ds : List D} {bs : List Bool}, Reps K H O vs ds → asBs ds = some bs → vs = bs.map V.bl
  | _, _, _, .nil, e => by simp [asBs] at e; subst e; rfl
  | _, _, _, .cons r t, e => by
    simp only [asBs, Option.bind_eq_some_iff, Option.map_eq_some_iff] at e
    obtain ⟨b, e1, bs, e2, e3⟩ := e
    subst e3
    have : _ := asBs_ok t e2
    subst this
    unfold asB at e1
    split at e1
    · cases e1; cases r; rfl
    · cases e1
def asIs : List D → Option (List Int)
  | [] => some []
  | x :: xs => (asI x).bind fun b => (asIs xs).map fun bs => b :: bs
theorem asIs_ok {K : PySem.W.Frag} {H : Hp} {O : Addr → Prop} : ∀ {vs : List V} {ds : List D} {bs : List Int}, Reps K H O vs ds → asIs ds = some bs → vs = bs.map V.int
  | _, _, _, .nil, e => by simp [asIs] at e; subst e; rfl
  | _, _, _, .cons r t, e => by
    simp only [asIs, Option.bind_eq_some_iff, Option.map_eq_some_iff] at e
    obtain ⟨b, e1, bs, e2, e3⟩ := e
    subst e3
    have : _ := asIs_ok t e2
    subst this
    unfold asI at e1
    split at e1
    · cases e1; cases r; rfl
    · cases e1
def asSs : List D → Option (List Str)
  | [] => some []
  | .str x :: xs => (asSs xs).map fun bs => x :: bs
  | _ => none
theorem asSs_ok {K : PySem.W.Frag} {H : Hp} {O : Addr → Prop} : ∀ {vs : List V} {ds : List D} {bs : List Str}, Reps K H O vs ds → asSs ds = some bs → vs = bs.map V.str
  | _, _, _, .nil, e => by simp [asSs] at e; subst e; rfl
  | _, d :: _, _, .cons r t, e => by
    cases d with
    | str x =>
      simp only [asSs, Option.map_eq_some_iff] at e
      obtain ⟨bs, e2, e3⟩ := e
      subst e3
      have : _ := asSs_ok t e2
      subst this
      cases r; rfl
    | _ => simp [asSs] at e
def dAll : List D → Option D
  | [.lst xs] => (asBs xs).map fun bs => .bl (bs.all id)
  | _ => none
theorem c_all {K : PySem.W.Frag} : Cl1 K (rAll K) dAll := by
  intro H O vs ds Q dm rs q
  unfold dAll at q
  split at q
  · rename_i xs
    obtain ⟨v, rfl, r⟩ := rs.one
    obtain ⟨a, us, rfl, h, z, r2⟩ := r.lst
    cases e : asBs xs with
    | none => rw [e] at q; exact q.elim
    | some bs =>
      rw [e] at q
      have := asBs_ok r2 e
      subst this
      exact ⟨a, bs, rfl, h, q _ H (Same.refl H) (.bl _)⟩
  · exact q.elim
def dAny : List D → Option D
  | [.lst xs] => (asBs xs).map fun bs => .bl (bs.any id)
  | _ => none
theorem c_any {K : PySem.W.Frag} : Cl1 K (rAny K) dAny := by
  intro H O vs ds Q dm rs q
  unfold dAny at q
  split at q
  · rename_i xs
    obtain ⟨v, rfl, r⟩ := rs.one
    obtain ⟨a, us, rfl, h, z, r2⟩ := r.lst
    cases e : asBs xs with
    | none => rw [e] at q; exact q.elim
    | some bs =>
      rw [e] at q
      have := asBs_ok r2 e
      subst this
      exact ⟨a, bs, rfl, h, q _ H (Same.refl H) (.bl _)⟩
  · exact q.elim
def dSum : List D → Option D
  | [.lst xs] => (asIs xs).map fun bs => .int bs.sum
  | _ => none
theorem c_sum {K : PySem.W.Frag} : Cl1 K (rSum K) dSum := by
  intro H O vs ds Q dm rs q
  unfold dSum at q
  split at q
  · rename_i xs
    obtain ⟨v, rfl, r⟩ := rs.one
    obtain ⟨a, us, rfl, h, z, r2⟩ := r.lst
    cases e : asIs xs with
    | none => rw [e] at q; exact q.elim
    | some bs =>
      rw [e] at q
      have := asIs_ok r2 e
      subst this
      exact ⟨a, bs, rfl, h, q _ H (Same.refl H) (.int _)⟩
  · exact q.elim
/-! ### ''.join -/
def dJoin : D → D → Option D
  | .str a, .lst xs => (asSs xs).bind fun ys => if (ys.map (·.length)).sum + ys.length * a.length ≤ 16777216 then some (.str (Txt.join a ys)) else none
  | _, _ => none
def rJoin (K : PySem.W.Frag) : V → List V → Hp → VK → Prop := fun x xs H Q => ∃ a p, ∃ ys : List Str, x = .str a ∧ xs = [.ref p] ∧ (SqL K H p (ys.map V.str) ∨ SqT K H p (ys.map V.str)) ∧
    (ys.map (·.length)).sum + ys.length * a.length ≤ 16777216 ∧ Q (.str (Txt.join a ys)) H
theorem m_join {K : PySem.W.Frag} : Mt1 K (rJoin K) dJoin := by
  intro H O x y dx dy Q dm rx ry q
  unfold dJoin at q
  split at q
  · rename_i a xs
    obtain ⟨p, us, rfl, h, z, r2⟩ := ry.lst
    cases e : asSs xs with
    | none => rw [e] at q; exact q.elim
    | some ys =>
      rw [e] at q
      have q' : VP K H O Q (if (ys.map (·.length)).sum + ys.length * a.length ≤ 16777216 then some (.str (Txt.join a ys)) else none) := q
      have := asSs_ok r2 e
      subst this
      by_cases c : (ys.map (·.length)).sum + ys.length * a.length ≤ 16777216
      · rw [if_pos c] at q'
        exact ⟨a, p, ys, rx.str, rfl, .inl h, c, q' _ H (Same.refl H) (.str _)⟩
      · rw [if_neg c] at q'; exact q'.elim
  · exact q.elim
/-! ### isinstance of built-in types -/
def tyName : D → Option String
  | .non => some "NoneType"
  | .bl _ => some "bool"
  | .int _ => some "int"
  | .str _ => some "str"
  | .tup _ => some "tuple"
  | .lst _ => some "list"
  | .kl _ => some "list"
  | _ => none
def isi (t n : String) : Bool := t == n || (t == "bool" && n == "int")
def dIsi : List D → Option D
  | [x, .ty n] => (tyName x).bind fun t => if n = "int" ∨ n = "bool" ∨ n = "str" ∨ n = "tuple" ∨ n = "list" then some (.bl (isi t n)) else none
  | _ => none
theorem kit_isi {t n : String} (ht : t = "NoneType" ∨ t = "bool" ∨ t = "int" ∨ t = "str" ∨ t = "tuple" ∨ t = "list") (hn : n = "int" ∨ n = "bool" ∨ n = "str" ∨ n = "tuple" ∨ n = "list") : kitB t n = some (isi t n) := by
  rcases ht with rfl | rfl | rfl | rfl | rfl | rfl <;> rcases hn with rfl | rfl | rfl | rfl | rfl <;> decide +kernel
theorem tyName_ok {K : PySem.W.Frag} {H : Hp} {O : Addr → Prop} {v : V} {d : D} {t : String} (r : RepB K H O v d) (e : tyName d = some t) :
    TyX K H v (.type t) ∧ (t = "NoneType" ∨ t = "bool" ∨ t = "int" ∨ t = "str" ∨ t = "tuple" ∨ t = "list") := by
  unfold tyName at e
  split at e <;> cases e
  · rw [r.non]; exact ⟨.base .non, by simp⟩
  · rw [r.bl]; exact ⟨.base (.bl _), by simp⟩
  · rw [r.int]; exact ⟨.base (.int _), by simp⟩
  · rw [r.str]; exact ⟨.base (.str _), by simp⟩
  · obtain ⟨a, us, rfl, h, z, r2⟩ := r.tup
    refine ⟨?_, by simp⟩
    rcases h with (h | ⟨o, h⟩) | ⟨o, its, n, h1, h2, _⟩
    · exact .base (.tup h)
    · exact .fTuple h
    · exact .kTuple h1 h2
  · obtain ⟨a, us, rfl, h, z, r2⟩ := r.lst
    refine ⟨?_, by simp⟩
    rcases h with (h | ⟨o, h⟩) | ⟨o, its, n, h1, h2, _⟩
    · exact .base (.lst h)
    · exact .base (.frz h)
    · exact .kList h1 h2
  · obtain ⟨a, us, rfl, h, z, r2⟩ := r.kl
    refine ⟨?_, by simp⟩
    rcases h with (h | ⟨o, h⟩) | ⟨o, its, n, h1, h2, _⟩
    · exact .base (.lst h)
    · exact .base (.frz h)
    · exact .kList h1 h2
theorem c_isi {K : PySem.W.Frag} : Cl1 K (rIsi K) dIsi := by
  intro H O vs ds Q dm rs q
  unfold dIsi at q
  split at q
  · rename_i x n
    obtain ⟨v, u, rfl, r, r2⟩ := rs.two
    cases e : tyName x with
    | none => rw [e] at q; exact q.elim
    | some t =>
      rw [e] at q
      have q' : VP K H O Q (if n = "int" ∨ n = "bool" ∨ n = "str" ∨ n = "tuple" ∨ n = "list" then some (.bl (isi t n)) else none) := q
      by_cases c : n = "int" ∨ n = "bool" ∨ n = "str" ∨ n = "tuple" ∨ n = "list"
      · rw [if_pos c] at q'
        obtain ⟨h1, h2⟩ := tyName_ok r e
        exact ⟨v, u, _, _, _, rfl, by rw [r2.ty]; exact .ty n, h1, kit_ty (kit_isi h2 c), q' _ H (Same.refl H) (.bl _)⟩
      · rw [if_neg c] at q'; exact q'.elim
  · exact q.elim
end PP

namespace PP
open PySem PySem.Spec PyProof.Rows L2
open Res (ok exc bad)
/-! ### several except clauses, with names or without -/
/-- behind a clause's suite its name is gone -/
def goneD (D : Ends) (i : Nat) : Ends := { nx := fun σ' H' => D.nx (σ'.set i none) H', rt := D.rt, bk := fun σ' H' => D.bk (σ'.set i none) H', ct := fun σ' H' => D.ct (σ'.set i none) H' }
def wAll (K : PySem.W.Frag) (Wout : WX) (D : Ends) : List (Value × Option Nat × (Addr → Value → Option Addr → TS)) → WX
  | [] => Wout
  | (c, none, ts) :: r => fun cls d σ H => ∃ b, PySem.W.exmOne K cls c = some b ∧ (b = true → ∀ a, H a = none → ts a cls d D σ H) ∧ (b = false → wAll K Wout D r cls d σ H)
  | (c, some i, ts) :: r => fun cls d σ H => ∃ b, PySem.W.exmOne K cls c = some b ∧ (b = true → ∀ a, H a = none → ts a cls d (goneD D i) (σ.set i (some (.ref a))) H) ∧ (b = false → wAll K Wout D r cls d σ H)
inductive HdsA (X : Cx) : List ExceptHandler → List (Value × Option Nat × (Addr → Value → Option Addr → TS)) → Prop
  | nil : HdsA X [] []
  | one {x : Str} {c : Value} {ts : Addr → Value → Option Addr → TS} {b₀ : Stmt} {suite : List Stmt} {np pos' : Pos} {hds : List ExceptHandler} {l : List (Value × Option Nat × (Addr → Value → Option Addr → TS))} (hc : Names X x c)
      (hsu : ∀ (a : Addr) (oe : Obj) (cls : Value) (d : Option Addr) (pn : List (Addr × Obj)), Zc cls d oe → (∃ vs, oe.data = .fields vs) → PSs (X.suite a ((a, oe) :: pn)) (b₀ :: suite) (ts a cls d)) (r : HdsA X hds l) :
      HdsA X (.ExceptHandler (some (.Name x np)) none (b₀ :: suite) pos' :: hds) ((c, none, ts) :: l)
  | as {x n : Str} {i : Nat} {c : Value} {ts : Addr → Value → Option Addr → TS} {b₀ : Stmt} {suite : List Stmt} {np pos' : Pos} {hds : List ExceptHandler} {l : List (Value × Option Nat × (Addr → Value → Option Addr → TS))} (hc : Names X x c) (hN : X.N.Nodup) (hi : X.N[i]? = some n) (hln : X.env.kindOf n = some .local)
      (hsu : ∀ (a : Addr) (oe : Obj) (cls : Value) (d : Option Addr) (pn : List (Addr × Obj)), Zc cls d oe → (∃ vs, oe.data = .fields vs) → PSs (X.suite a ((a, oe) :: pn)) (b₀ :: suite) (ts a cls d)) (r : HdsA X hds l) :
      HdsA X (.ExceptHandler (some (.Name x np)) (some n) (b₀ :: suite) pos' :: hds) ((c, some i, ts) :: l)
section
variable {X : Cx} {body : List Stmt} {h₀ : ExceptHandler} {hds : List ExceptHandler} {l : List (Value × Option Nat × (Addr → Value → Option Addr → TS))} {pos : Pos} {tb : WX → TS} {Wout : WX}
theorem ps_try_all (hs : X.stack = X.env :: X.outer) (hf : X.env.frame = some X.env.locals) (tk : Takes X Wout)
    (hb : ∀ (W : WX) (pn : List (Addr × Obj)) (xe : Value → Shared → Prop), Takes (X.tr pn xe) W → PassesOwn (model X.prog X.w) X.A X.env xe → PSs (X.tr pn xe) body (tb W))
    (hh : HdsA X (h₀ :: hds) l) : PS X (.Try body (h₀ :: hds) [] [] pos) (fun D σ H => tb (wAll X.K Wout D l) D σ H) := by
  refine ⟨fun pins s σ H D I h => ?_⟩
  have ok := I.ok
  have hfr : X.A.frames = some (X.env :: X.outer) := by rw [ok.frames, hs]
  refine wpAny_Try_except ?_
  refine wpAny_mono ((hb (wAll X.K Wout D l) (X.pn ++ pins) (fun e s₁ => wpAny (model X.prog X.w) X.A (noteFrame e X.env) (fun _ s₂ => wpAny (model X.prog X.w) X.A (setFlight e none) (fun _ s₃ =>
    wpAny (model X.prog X.w) X.A (handleBy e X.env (h₀ :: hds)) (SP X pins D) X.xe s₃) X.xe s₂) X.xe s₁) (fun u s' xx => ?_) PassesOwn.looking).run [] s σ H D (I.toTry _) h) (fun f s1 hsp => ?_) (fun e s1 he => he)
  · -- the catch
    obtain ⟨a, B, sI, pins', σ', H', cls, d, rfl, J', nb, up, sky, na, os, ag, w⟩ := xx
    have J : Inv X pins σ' H' sI := J'.ofTry ok
    have sky' : Sky B (X.env :: X.outer) a (Zc cls d) X.env.locals s'.heap := by rw [← hs]; exact sky
    show wpAny (model X.prog X.w) X.A (noteFrame (.ref a) X.env) _ _ _
    refine Sky.land Zc.steady hfr hf sky' fun h3 fl3 up3 => ?_
    have J3 : Inv X pins σ' H' { s' with heap := h3 } := J.landed nb fl3.1 (up.trans up3) os ag
    obtain ⟨oe3, vs3, he3, hz3, hd3⟩ := fl3.there
    have notFr : ∀ {h : Heap} {o : Obj} {vs : Array Value}, h.FunFrames B (X.env :: X.outer) → h.get? a = some o → o.data = .fields vs → a ∉ frs (X.env :: X.outer) := fun {h o vs} ff e dd hm => by
      obtain ⟨_, o', e', hnf⟩ := ff.mem hm
      rw [e] at e'; cases e'
      exact hnf _ dd
    have nfr := notFr fl3.2.2.1 he3 hd3
    have nL : a ≠ X.env.locals := fun z => nfr (List.mem_filterMap.mpr ⟨X.env, List.mem_cons_self, by rw [hf, z]⟩)
    have nF : a ∉ X.fs := fun hm => by
      obtain ⟨e, he, q⟩ := List.mem_filterMap.mp hm
      exact nfr (List.mem_filterMap.mpr ⟨e, List.mem_cons_of_mem _ he, q⟩)
    have S3 := J3.suite he3 hd3 na nL nF
    have LT : PySem.W.Looks (model X.prog X.w) h3 (typeOf (.ref a)) cls := fun A Q E s k q => wpAny_typeOf_ref (k _ _ he3) (by rw [hz3.1]; exact q)
    have test : ∀ {x : Str} {c : Value} {np : Pos} {Q : Value → Shared → Prop} {E : Value → Shared → Prop}, Names X x c → Q c { s' with heap := h3 } → wpAny (model X.prog X.w) (X.A.mark (some (.ref a))) (eval (.Name x np) X.env) Q E { s' with heap := h3 } := fun {x c np Q E} hc q => by
      obtain ⟨hg, hdbg, hm | ⟨hm, hv, hnn⟩⟩ := hc
      · exact ld_glob (X := X.suite a ((a, oe3) :: (X.pn ++ pins))) S3 hg hm q hdbg
      · exact ld_blt (X := X.suite a ((a, oe3) :: (X.pn ++ pins))) S3 hg hm hv q hnn hdbg
    have go : ∀ {hds' : List ExceptHandler} {l' : List (Value × Option Nat × (Addr → Value → Option Addr → TS))}, HdsA X hds' l' → wAll X.K Wout D l' cls d σ' H' →
        wpAny (model X.prog X.w) X.A (handleBy (.ref a) X.env hds') (SP X pins D) X.xe { s' with heap := h3 } := by
      intro hds' l' hk
      induction hk with
      | nil =>
        intro w
        refine wpAny_handleBy_nil ?_
        obtain ⟨k1, k2, k3, oe, vs, T, oT, ts', he, hz, hd, h1, hr⟩ := id fl3
        unfold PySem.passOn
        refine wpAny_bind (wpAny_field he hd h1 ?_)
        rw [if_neg (show ¬ ((Value.ref T == Value.none) = true) from by simp)]
        have fin : wpAny (model X.prog X.w) X.A (setFlight (.ref a) X.env.frame) (fun _ s4 => wpAny (model X.prog X.w) X.A (throw (.ref a) : Sem Flow) (SP X pins D) X.xe s4) X.xe { s' with heap := h3 } := by
          rw [hf]
          refine HandSPX.setFlight_upZ fl3 fun h4 hh4 up4 => wpAny_throw (tk _ _ ?_)
          exact ⟨a, B, sI, pins, σ', H', cls, d, rfl, J, nb, (up.trans up3).trans up4, .inr (.inr (by rw [hs]; exact hh4)), na, os, ag, w⟩
        first
          | exact wpAny_bind (wpAny_pure (wpAny_bind fin))
          | exact wpAny_bind fin
      | @one x c ts b₀ suite np pos' hds2 l2 hc hsu r ih =>
        intro w
        obtain ⟨b, hb1, hyes, hno⟩ := w
        refine wpAny_handleBy_cons (codeAny_handlers_test ?_) (by intro q; cases q)
        have LM := PySem.W.exm_one (M := model X.prog X.w) (J3.kIn) LT hb1
        refine test hc (LM.here ?_)
        cases b with
        | true =>
          refine codeAny_handlers_suite ?_
          refine HandSPX.lands_againZ fl3 fun h4 fl4 up4 => ?_
          have J4 : Inv X pins σ' H' { s' with heap := h4 } := J.landed nb fl4.1 ((up.trans up3).trans up4) os ag
          obtain ⟨oe4, vs4, he4, hz4, hd4⟩ := fl4.there
          have S4 := J4.suite he4 hd4 na nL nF
          refine wpAny_mono ((hsu a oe4 cls d (X.pn ++ pins) hz4 ⟨_, hd4⟩).run [] _ _ H' _ S4 (hyes rfl a na)) (fun f s6 hsp => ?_) (fun _ _ z => False.elim z)
          cases f with
          | next =>
            obtain ⟨σ6, H6, S6, q6⟩ := hsp
            exact ⟨_, _, S6.unsuite ok, q6⟩
          | brk =>
            obtain ⟨σ6, H6, S6, q6⟩ := hsp
            exact ⟨_, _, S6.unsuite ok, q6⟩
          | cont =>
            obtain ⟨σ6, H6, S6, q6⟩ := hsp
            exact ⟨_, _, S6.unsuite ok, q6⟩
          | ret u =>
            obtain ⟨v6, σ6, H6, S6, r6, q6⟩ := hsp
            exact ⟨_, _, _, S6.unsuite ok, r6, q6⟩
        | false =>
          show wpAny _ X.A (handleBy (.ref a) X.env hds2) _ _ _
          exact ih (hno rfl)
      | @as x n i c ts b₀ suite np pos' hds2 l2 hc hN hi hln hsu r ih =>
        intro w
        obtain ⟨b, hb1, hyes, hno⟩ := w
        refine wpAny_handleBy_cons (codeAny_handlers_test ?_) (by intro q; cases q)
        have LM := PySem.W.exm_one (M := model X.prog X.w) (J3.kIn) LT hb1
        refine test hc (LM.here ?_)
        cases b with
        | true =>
          refine codeAny_handlers_suite_as ?_
          refine HandSPX.lands_againZ fl3 fun h4 fl4 up4 => ?_
          have J4 : Inv X pins σ' H' { s' with heap := h4 } := J.landed nb fl4.1 ((up.trans up3).trans up4) os ag
          obtain ⟨oe4, vs4, he4, hz4, hd4⟩ := fl4.there
          have S4 := J4.suite he4 hd4 na nL nF
          refine store_ok (X := X.suite a ((a, oe4) :: (X.pn ++ pins))) (v := .ref a) S4 hN hi (.inl hln) rfl (fun s5 S5 => ?_) (.inr hln)
          refine wpAny_mono ((hsu a oe4 cls d (X.pn ++ pins) hz4 ⟨_, hd4⟩).run [] s5 _ H' _ S5 (hyes rfl a na)) (fun f s6 hsp => ?_) (fun _ _ z => False.elim z)
          have end_ : ∀ {σ6 : L2.St} {H6 : Hp} {Q : Shared → Prop}, Inv (X.suite a ((a, oe4) :: (X.pn ++ pins))) [] σ6 H6 s6 → (∀ s7, Inv X pins (σ6.set i none) H6 s7 → Q s7) →
              wpAny (model X.prog X.w) X.A (do bindName X.env n .none; unbindBehindTheSuite X.env n pos') (fun _ s7 => Q s7) X.xe s6 := fun {σ6 H6 Q} S6 hq => gone_ok (S6.unsuite ok) hN hi hln hq
          cases f with
          | next =>
            obtain ⟨σ6, H6, S6, q6⟩ := hsp
            exact end_ S6 fun s7 J7 => ⟨_, _, J7, q6⟩
          | brk =>
            obtain ⟨σ6, H6, S6, q6⟩ := hsp
            exact end_ S6 fun s7 J7 => ⟨_, _, J7, q6⟩
          | cont =>
            obtain ⟨σ6, H6, S6, q6⟩ := hsp
            exact end_ S6 fun s7 J7 => ⟨_, _, J7, q6⟩
          | ret u =>
            obtain ⟨v6, σ6, H6, S6, r6, q6⟩ := hsp
            exact end_ S6 fun s7 J7 => ⟨_, _, _, J7, r6, q6⟩
        | false =>
          show wpAny _ X.A (handleBy (.ref a) X.env hds2) _ _ _
          exact ih (hno rfl)
    exact go hh w
  · cases f with
    | next =>
      obtain ⟨σ', H', J', q⟩ := hsp
      exact wpAny_execs_nil ⟨σ', H', J'.ofTry ok, q⟩
    | brk =>
      obtain ⟨σ', H', J', q⟩ := hsp
      exact ⟨σ', H', J'.ofTry ok, q⟩
    | cont =>
      obtain ⟨σ', H', J', q⟩ := hsp
      exact ⟨σ', H', J'.ofTry ok, q⟩
    | ret u =>
      obtain ⟨v, σ', H', J', r, q⟩ := hsp
      exact ⟨v, σ', H', J'.ofTry ok, r, q⟩
end

/-! ### the same by what they do -/
/-- a clause: the class that it names, its name's slot, what its suite does when an error of the class c is met -/
structure Cl where
  cls : Str
  slot : Option Nat
  su : Str → Sls → Fl
def clIn (i : Option Nat) (ρ : Sls) : Sls := match i with
  | some i => ρ.set i .no
  | none => ρ
def clOut (i : Option Nat) (fl : Fl) : Fl := match i, fl with
  | some i, .nx ρ => .nx (ρ.set i .no)
  | some i, .bk ρ => .bk (ρ.set i .no)
  | some i, .ct ρ => .ct (ρ.set i .no)
  | some _, .rt d => .rt d
  | none, .nx ρ => .nx ρ
  | none, .bk ρ => .bk ρ
  | none, .ct ρ => .ct ρ
  | none, .rt d => .rt d
  | _, _ => .bad
def hdl (sub : Str → Str → Bool) : List Cl → Str → Sls → Fl
  | [], c, ρ => .exc c ρ
  | k :: r, c, ρ => if sub c k.cls then clOut k.slot (k.su c (clIn k.slot ρ)) else hdl sub r c ρ
def sTry (cs : List Str) (sub : Str → Str → Bool) (body : Sls → Fl) (hs : List Cl) : Sls → Fl := fun ρ => match body ρ with
  | .exc c ρ' => if c ∈ cs then hdl sub hs c ρ' else .bad
  | fl => fl
/-- what the written part says of a class that an except clause names -/
def ExmOk (K : PySem.W.Frag) (cs : List Str) (sub : Str → Str → Bool) (A : Str) : Prop := ∀ c ∈ cs, PySem.W.exmOne K (.ref (He.ga K c)) (.ref (He.ga K A)) = some (sub c A)
/-- a suite's reading: the error's class, where it stands -/
def tSu (K : PySem.W.Frag) (cs : List Str) (i : Option Nat) (su : Str → Sls → Fl) : Addr → Value → Option Addr → TS := fun a cls d D σ H =>
  ∃ c, cls = .ref (He.ga K c) ∧ d = none ∧ c ∈ cs ∧ (∀ j, i = some j → j < σ.length → σ[j]? = some (some (.ref a))) ∧ tSS K E0' (su c) D σ H
inductive HdsS (X : Cx) (cs : List Str) (sub : Str → Str → Bool) : List ExceptHandler → List Cl → Prop
  | nil : HdsS X cs sub [] []
  | one {A : Str} {su : Str → Sls → Fl} {b₀ : Stmt} {suite : List Stmt} {np pos' : Pos} {hds : List ExceptHandler} {l : List Cl} (hc : Names X A (.ref (He.ga X.K A))) (hx : ExmOk X.K cs sub A)
      (hsu : ∀ (a : Addr) (oe : Obj) (cls : Value) (d : Option Addr) (pn : List (Addr × Obj)), Zc cls d oe → (∃ vs, oe.data = .fields vs) → PSs (X.suite a ((a, oe) :: pn)) (b₀ :: suite) (tSu X.K cs none su a cls d)) (r : HdsS X cs sub hds l) :
      HdsS X cs sub (.ExceptHandler (some (.Name A np)) none (b₀ :: suite) pos' :: hds) (⟨A, none, su⟩ :: l)
  | as {A n : Str} {i : Nat} {su : Str → Sls → Fl} {b₀ : Stmt} {suite : List Stmt} {np pos' : Pos} {hds : List ExceptHandler} {l : List Cl} (hc : Names X A (.ref (He.ga X.K A))) (hx : ExmOk X.K cs sub A) (hN : X.N.Nodup) (hi : X.N[i]? = some n) (hln : X.env.kindOf n = some .local)
      (hsu : ∀ (a : Addr) (oe : Obj) (cls : Value) (d : Option Addr) (pn : List (Addr × Obj)), Zc cls d oe → (∃ vs, oe.data = .fields vs) → PSs (X.suite a ((a, oe) :: pn)) (b₀ :: suite) (tSu X.K cs (some i) su a cls d)) (r : HdsS X cs sub hds l) :
      HdsS X cs sub (.ExceptHandler (some (.Name A np)) (some n) (b₀ :: suite) pos' :: hds) (⟨A, some i, su⟩ :: l)
def toA (K : PySem.W.Frag) (cs : List Str) (k : Cl) : Value × Option Nat × (Addr → Value → Option Addr → TS) := (.ref (He.ga K k.cls), k.slot, tSu K cs k.slot k.su)
theorem HdsS.a {X : Cx} {cs : List Str} {sub : Str → Str → Bool} {hds : List ExceptHandler} {l : List Cl} (h : HdsS X cs sub hds l) : HdsA X hds (l.map (toA X.K cs)) := by
  induction h with
  | nil => exact .nil
  | one hc hx hsu r ih => exact .one hc hsu ih
  | as hc hx hN hi hln hsu r ih => exact .as hc hN hi hln hsu ih
theorem HdsS.ex {X : Cx} {cs : List Str} {sub : Str → Str → Bool} {hds : List ExceptHandler} {l : List Cl} (h : HdsS X cs sub hds l) : ∀ k ∈ l, ExmOk X.K cs sub k.cls := by
  induction h with
  | nil => intro k hk; simp at hk
  | one hc hx hsu r ih => intro k hk; rcases List.mem_cons.mp hk with e | hk; (subst e; exact hx); exact ih k hk
  | as hc hx hN hi hln hsu r ih => intro k hk; rcases List.mem_cons.mp hk with e | hk; (subst e; exact hx); exact ih k hk
theorem Sta.no {K : PySem.W.Frag} {H : Hp} {O : Addr → Prop} {σ : L2.St} {ρ : Sls} {F : List Addr} (s : Sta K H O σ ρ F) (i : Nat) (x : Option V) : ∃ F', Sta K H O (σ.set i x) (ρ.set i .no) F' ∧ ∀ a ∈ F', a ∈ F :=
  let ⟨F', h1, h2⟩ := s.st.setN i x; ⟨F', ⟨h1, s.dom⟩, h2⟩
section
variable {X : Cx} {E : EX} {cs : List Str} {sub : Str → Str → Bool} {body : List Stmt} {h₀ : ExceptHandler} {hds : List ExceptHandler} {l : List Cl} {pos : Pos} {s1 : Sls → Fl}
theorem hdl_reads {D' : Ends} {c : Str} {H' : Hp} {O' : Addr → Prop} {F' : List Addr} {σ' : L2.St} {ρ' : Sls} (hc : c ∈ cs) : ∀ {l : List Cl}, (∀ k ∈ l, ExmOk X.K cs sub k.cls) → Sta X.K H' O' σ' ρ' F' → FP X.K E D' H' O' F' (hdl sub l c ρ') →
    wAll X.K (fun cls d σ H => E σ cls d H) D' (l.map (toA X.K cs)) (.ref (He.ga X.K c)) none σ' H'
  | [], _, s, p => p σ' H' O' F' s .refl
  | ⟨A, none, su⟩ :: l, hx, s, p => by
    refine ⟨sub c A, hx ⟨A, none, su⟩ (by simp) c hc, fun e a na => ?_, fun e => hdl_reads hc (fun k hk => hx k (by simp [hk])) s ?_⟩
    · refine ⟨c, rfl, rfl, hc, fun j z => (nomatch z), ρ', O', F', s, ?_⟩
      have p' : FP X.K E D' H' O' F' (if sub c A then clOut none (su c (clIn none ρ')) else hdl sub l c ρ') := p
      rw [if_pos e] at p'
      have p2 : FP X.K E D' H' O' F' (clOut none (su c ρ')) := p'
      show FP X.K E0' D' H' O' F' (su c ρ')
      cases q : su c ρ' with
      | nx ρ2 => rw [q] at p2; exact p2
      | rt d => rw [q] at p2; exact p2
      | bk ρ2 => rw [q] at p2; exact p2
      | ct ρ2 => rw [q] at p2; exact p2
      | exc c2 ρ2 => rw [q] at p2; exact p2.elim
      | bad => rw [q] at p2; exact p2.elim
    · have p' : FP X.K E D' H' O' F' (if sub c A then clOut none (su c (clIn none ρ')) else hdl sub l c ρ') := p
      rw [if_neg (by rw [e]; exact Bool.false_ne_true)] at p'
      exact p'
  | ⟨A, some i, su⟩ :: l, hx, s, p => by
    refine ⟨sub c A, hx ⟨A, some i, su⟩ (by simp) c hc, fun e a na => ?_, fun e => hdl_reads hc (fun k hk => hx k (by simp [hk])) s ?_⟩
    · obtain ⟨F2, s2, sub2⟩ := s.no i (some (.ref a))
      refine ⟨c, rfl, rfl, hc, fun j z hj => by cases z; rw [List.length_set] at hj; exact List.getElem?_set_self hj, ρ'.set i .no, O', F2, s2, ?_⟩
      have p' : FP X.K E D' H' O' F' (if sub c A then clOut (some i) (su c (clIn (some i) ρ')) else hdl sub l c ρ') := p
      rw [if_pos e] at p'
      have p2 : FP X.K E D' H' O' F' (clOut (some i) (su c (ρ'.set i .no))) := p'
      have tr : Tr H' O' F' H' O' F2 := .sub sub2 (Same.refl _)
      show FP X.K E0' (goneD D' i) H' O' F2 (su c (ρ'.set i .no))
      cases q : su c (ρ'.set i .no) with
      | nx ρ2 =>
        rw [q] at p2
        intro σ3 H3 O3 F3 s3 t3
        obtain ⟨F4, s4, sub4⟩ := s3.no i none
        exact p2 _ H3 O3 F4 s4 ((tr.trans s t3).trans s (.sub sub4 (Same.refl _)))
      | rt d => rw [q] at p2; exact fun v H3 O3 F3 r3 t3 => p2 v H3 O3 F3 r3 (tr.trans s t3)
      | bk ρ2 =>
        rw [q] at p2
        intro σ3 H3 O3 F3 s3 t3
        obtain ⟨F4, s4, sub4⟩ := s3.no i none
        exact p2 _ H3 O3 F4 s4 ((tr.trans s t3).trans s (.sub sub4 (Same.refl _)))
      | ct ρ2 =>
        rw [q] at p2
        intro σ3 H3 O3 F3 s3 t3
        obtain ⟨F4, s4, sub4⟩ := s3.no i none
        exact p2 _ H3 O3 F4 s4 ((tr.trans s t3).trans s (.sub sub4 (Same.refl _)))
      | exc c2 ρ2 => rw [q] at p2; exact p2.elim
      | bad => rw [q] at p2; exact p2.elim
    · have p' : FP X.K E D' H' O' F' (if sub c A then clOut (some i) (su c (clIn (some i) ρ')) else hdl sub l c ρ') := p
      rw [if_neg (by rw [e]; exact Bool.false_ne_true)] at p'
      exact p'
theorem ss_try (hs : X.stack = X.env :: X.outer) (hf : X.env.frame = some X.env.locals) (tk : Takes X fun cls d σ H => E σ cls d H)
    (hb : ∀ (W : WX) (pn : List (Addr × Obj)) (xe : Value → Shared → Prop), Takes (X.tr pn xe) W → PassesOwn (model X.prog X.w) X.A X.env xe → SSs (X.tr pn xe) (fun σ cls d H => W cls d σ H) body s1)
    (hh : HdsS X cs sub (h₀ :: hds) l) : SS X E (.Try body (h₀ :: hds) [] [] pos) (sTry cs sub s1 l) :=
  ps_imp (ps_try_all (tb := fun W => tSS X.K (fun σ cls d H => W cls d σ H) s1) hs hf tk hb hh.a) fun D σ H ⟨ρ, O, F, s, p⟩ => ⟨ρ, O, F, s, by
    unfold sTry at p
    cases q : s1 ρ with
    | nx ρ' => rw [q] at p; exact p
    | rt d => rw [q] at p; exact p
    | bk ρ' => rw [q] at p; exact p
    | ct ρ' => rw [q] at p; exact p
    | bad => rw [q] at p; exact p
    | exc c ρ' =>
      rw [q] at p
      intro σ' H' O' F' s' t
      have p' : FP X.K E D H O F (if c ∈ cs then hdl sub l c ρ' else .bad) := p
      by_cases hc : c ∈ cs
      · rw [if_pos hc] at p'
        exact hdl_reads hc hh.ex s' (FP.later s t p')
      · rw [if_neg hc] at p'; exact p'.elim⟩
end
/-! ### suites: return of what isinstance(e, C) tells -/
/-- what is known of the error within the suite -/
abbrev At (j : Nat) (a : Addr) (σ : L2.St) : Prop := σ[j]? = some (some (.ref a))
def tEX (K : PySem.W.Frag) (j : Nat) (a : Addr) (f : Sls → Res D) : TE := fun σ H Q => At j a σ ∧ tEF K E0' f σ H Q
def tTX (K : PySem.W.Frag) (j : Nat) (a : Addr) (b : Bool) : TT := fun σ H Q => At j a σ ∧ Q b H
/-- what the written part says of isinstance(e, C), e of the class c -/
def IsiOk (K : PySem.W.Frag) (cs : List Str) (sub : Str → Str → Bool) (C : Str) : Prop := ∀ c ∈ cs, ExcC K (He.ga K c) ∧ PySem.W.kitOne K (.ref (He.ga K c)) (.ref (He.ga K C)) = some (sub c C)
section
variable {X : Cx} {a : Addr} {oe : Obj} {pn : List (Addr × Obj)} {cs : List Str} {sub : Str → Str → Bool} {c C x : Str} {j : Nat} {p1 p2 p3 pos : Pos} {A B : Expr} {f g : Sls → Res D}
theorem px_isE (hk : IsiOk X.K cs sub C) (hc : c ∈ cs) (hz : Zc (.ref (He.ga X.K c)) none oe) (hf : ∃ vs, oe.data = .fields vs) (hm : X.mg "isinstance" = none) (hC : X.mg C = some (.ref (He.ga X.K C))) (hg : Gl X "isinstance" := by rfl) (hgC : Gl X C := by rfl)
    (hN : X.N[j]? = some x := by rfl) (hv : Vis X.env.scope x := by first | exact Or.inl rfl | exact Or.inr (Or.inl rfl) | exact Or.inr (Or.inr rfl)) (hd : (x == ("__debug__" : Str)) = false := by decide) (hcd : (x == ("__classdict__" : Str)) = false := by decide) (hdC : (C == ("__debug__" : Str)) = false := by decide)
    (h1 : starEach [.Name x p2, .Name C p3] X.env = (false, eval (.Name x p2) X.env) :: starEach [.Name C p3] X.env := by rfl) (h2 : starEach [.Name C p3] X.env = (false, eval (.Name C p3) X.env) :: starEach [] X.env := by rfl) (hpl : (backTo pos (starEach [.Name C p3] X.env)).any (·.1) = false := by rfl) :
    PE (X.suite a ((a, oe) :: pn)) (.Call (.Name "isinstance" p1) [.Name x p2, .Name C p3] [] pos) (fun σ H Q => At j a σ ∧ Q (.bl (sub c C)) H) := by
  refine pe_imp (pe_callB (X := X.suite a ((a, oe) :: pn)) (call_isE (hk c hc).1 hz hf) hg hm (by decide +kernel) (pa_cons (pe_var (i := j) hN hv hd hcd) (pa_cons (pe_glob (v := .ref (He.ga X.K C)) hgC hC rfl hdC) pa_nil h2) h1) (by decide) (by decide) h1 hpl) fun σ H Q ⟨e, q⟩ => ?_
  exact ⟨_, e, .ref (He.ga X.K C), .ref (He.ga X.K C), _, rfl, fun u r => r, (hk c hc).2, q⟩
theorem pt_isE (h : PE (X.suite a ((a, oe) :: pn)) A (fun σ H Q => At j a σ ∧ Q (.bl (sub c C)) H)) (he : ∀ whole, isTrue A X.env whole = (do let v ← whole; standAt A.pos; holding [v] (truthy v)) := by intro _; rfl) : PT (X.suite a ((a, oe) :: pn)) A (tTX X.K j a (sub c C)) :=
  pt_imp (pt_val h he) fun σ H Q ⟨e, q⟩ => ⟨e, _, rfl, q⟩
theorem px_of (h : EF (X.suite a ((a, oe) :: pn)) E0' A f) : PE (X.suite a ((a, oe) :: pn)) A (tEX X.K j a f) := pe_imp h fun σ H Q ⟨_, q⟩ => q
theorem px_val (h : PE (X.suite a ((a, oe) :: pn)) A (fun σ H Q => At j a σ ∧ Q (.bl (sub c C)) H)) : PE (X.suite a ((a, oe) :: pn)) A (tEX X.K j a (mC (.bl (sub c C)))) :=
  pe_imp h fun σ H Q ⟨e, ρ, O, F, s, p⟩ => ⟨e, p _ H (Same.refl H) (.bl _)⟩
theorem px_if {T : Expr} {b : Bool} (hc : PT (X.suite a ((a, oe) :: pn)) T (tTX X.K j a b)) (ha : PE (X.suite a ((a, oe) :: pn)) A (tEX X.K j a f)) (hb : PE (X.suite a ((a, oe) :: pn)) B (tEX X.K j a g)) :
    PE (X.suite a ((a, oe) :: pn)) (.IfExp T A B pos) (tEX X.K j a (if b then f else g)) :=
  pe_imp (pe_ifExp hc ha hb) fun σ H Q ⟨e, q⟩ => ⟨e, by
    cases b with
    | true => exact iteT ⟨e, q⟩
    | false => exact iteF ⟨e, q⟩⟩
theorem su_ret {i : Option Nat} {su : Str → Sls → Res D} {cls : Value} {d : Option Addr} (hi : ∀ σ : L2.St, (∀ k, i = some k → k < σ.length → σ[k]? = some (some (.ref a))) → σ.length = X.N.length → At j a σ)
    (h : ∀ c ∈ cs, cls = .ref (He.ga X.K c) → d = none → PE (X.suite a ((a, oe) :: pn)) A (tEX X.K j a (su c))) : PSs (X.suite a ((a, oe) :: pn)) [.Return (some A) pos] (tSu X.K cs i (fun c => sRet (su c)) a cls d) := by
  refine ⟨fun pins s σ H D I ⟨c, e1, e2, hc, e3, ρ, O, F, st, p⟩ => ?_⟩
  have hAt : At j a σ := hi σ e3 I.len
  refine (pss_one (ps_ret (h c hc e1 e2))).run pins s σ H D I ⟨hAt, ρ, O, F, st, (FP.po st p).imp fun x p1 v H1 e1 r1 => p1 v H1 O F r1 (.same e1)⟩
/-- .. where the error is not asked -/
theorem su_any {i : Option Nat} {su : Sls → Fl} {sts : List Stmt} {cls : Value} {d : Option Addr} (h : SSs (X.suite a ((a, oe) :: pn)) E0' sts su) : PSs (X.suite a ((a, oe) :: pn)) sts (tSu X.K cs i (fun _ => su) a cls d) :=
  pss_imp h fun D σ H ⟨c, _, _, _, _, q⟩ => q
end
end PP

namespace PP
open PySem PySem.Spec PyProof.Rows L2
open Res (ok exc bad)
/-! ### a table of the module's top: text keys -/
structure KTab (K : PySem.W.Frag) (w : World) (x : Str) (tbl : List (Str × D)) : Prop where
  kd : ∃ es n, KDict K w (He.ga K x) es n
  yes : ∀ z d, tbl.lookup z = some d → ∃ u v, PySem.W.nsIn K (He.ga K x) z = some (some u) ∧ RelV v u ∧ ∀ H O, Rep K H O v d
  no : ∀ z, tbl.lookup z = none → PySem.W.nsIn K (He.ga K x) z = some none
section
variable {X : Cx} {E : EX} {e : Expr} {f : Sls → Res D} {x : Str} {tbl : List (Str × D)} {pos p1 : Pos}
def mKIn (tbl : List (Str × D)) (f : Sls → Res D) : Sls → Res D := fun ρ => f ρ >>= fun d => match d with
  | .str z => ok (.bl (tbl.lookup z).isSome)
  | _ => bad
def mKNotIn (tbl : List (Str × D)) (f : Sls → Res D) : Sls → Res D := fun ρ => f ρ >>= fun d => match d with
  | .str z => ok (.bl (!(tbl.lookup z).isSome))
  | _ => bad
def mKGet (tbl : List (Str × D)) (f : Sls → Res D) : Sls → Res D := fun ρ => f ρ >>= fun d => match d with
  | .str z => ofO (tbl.lookup z)
  | _ => bad
theorem ktab_is {K : PySem.W.Frag} {w : World} (T : KTab K w x tbl) (z : Str) : ∃ r, PySem.W.nsIn K (He.ga K x) z = some r ∧ r.isSome = (tbl.lookup z).isSome := by
  cases q : tbl.lookup z with
  | none => exact ⟨none, T.no z q, rfl⟩
  | some d =>
    obtain ⟨u, v, h1, _⟩ := T.yes z d q
    exact ⟨some u, h1, rfl⟩
theorem ef_kin (T : KTab X.K X.w x tbl) (hm : X.mg x = some (.ref (He.ga X.K x))) (ha : EF X E e f) (hg : Gl X x := by rfl) (hd : (x == ("__debug__" : Str)) = false := by decide) (hb : behindInMarks .In (.Name x p1) = false := by rfl) : EF X E (.Compare e [.In] [.Name x p1] pos) (mKIn tbl f) := by
  obtain ⟨es, n, kd⟩ := T.kd
  exact pe_imp (pe_cmpR (op_in_kd kd) ha (pe_glob (v := .ref (He.ga X.K x)) hg hm rfl hd) hb) fun σ H Q ⟨ρ, O, F, s, p⟩ => ⟨ρ, O, F, s, p.bind.imp fun d p1 v H1 e1 r1 => by
    cases d with
    | str z =>
      cases r1
      obtain ⟨r, h1, h2⟩ := ktab_is T z
      exact ⟨z, r, rfl, rfl, h1, by rw [h2]; exact p1 _ H1 e1 (.bl _)⟩
    | _ => exact p1.elim⟩
theorem ef_knotin (T : KTab X.K X.w x tbl) (hm : X.mg x = some (.ref (He.ga X.K x))) (ha : EF X E e f) (hg : Gl X x := by rfl) (hd : (x == ("__debug__" : Str)) = false := by decide) (hb : behindInMarks .NotIn (.Name x p1) = false := by rfl) : EF X E (.Compare e [.NotIn] [.Name x p1] pos) (mKNotIn tbl f) := by
  obtain ⟨es, n, kd⟩ := T.kd
  exact pe_imp (pe_cmpR (op_notIn_kd kd) ha (pe_glob (v := .ref (He.ga X.K x)) hg hm rfl hd) hb) fun σ H Q ⟨ρ, O, F, s, p⟩ => ⟨ρ, O, F, s, p.bind.imp fun d p1 v H1 e1 r1 => by
    cases d with
    | str z =>
      cases r1
      obtain ⟨r, h1, h2⟩ := ktab_is T z
      exact ⟨z, r, rfl, rfl, h1, by rw [h2]; exact p1 _ H1 e1 (.bl _)⟩
    | _ => exact p1.elim⟩
theorem et_kin (T : KTab X.K X.w x tbl) (hm : X.mg x = some (.ref (He.ga X.K x))) (ha : EF X E e f) (hg : Gl X x := by rfl) (hd : (x == ("__debug__" : Str)) = false := by decide) (hb : behindInMarks .In (.Name x p1) = false := by rfl) : ET X E (.Compare e [.In] [.Name x p1] pos) (mT (mKIn tbl f)) := by
  obtain ⟨es, n, kd⟩ := T.kd
  exact pt_imp (pt_cmpR (op_in_kd kd) ha (pe_glob (v := .ref (He.ga X.K x)) hg hm rfl hd) hb) fun σ H Q ⟨ρ, O, F, s, p⟩ => ⟨ρ, O, F, s, by
    have p' : Po X.K E σ H (f ρ >>= fun d => (match d with
      | .str z => ok (.bl (tbl.lookup z).isSome)
      | _ => bad) >>= fun x => ofO (asB x)) fun b => ∀ H', Same H H' → Q b H' := by
      have p0 : Po X.K E σ H ((f ρ >>= fun d => match d with
        | .str z => ok (.bl (tbl.lookup z).isSome)
        | _ => bad) >>= fun x => ofO (asB x)) fun b => ∀ H', Same H H' → Q b H' := p
      rw [res_assoc] at p0
      exact p0
    refine p'.bind.imp fun d p1 v H1 e1 r1 => ?_
    cases d with
    | str z =>
      cases r1
      obtain ⟨r, h1, h2⟩ := ktab_is T z
      exact ⟨z, r, rfl, rfl, h1, _, rfl, by rw [h2]; exact p1 H1 e1⟩
    | _ => exact p1.elim⟩
theorem et_knotin (T : KTab X.K X.w x tbl) (hm : X.mg x = some (.ref (He.ga X.K x))) (ha : EF X E e f) (hg : Gl X x := by rfl) (hd : (x == ("__debug__" : Str)) = false := by decide) (hb : behindInMarks .NotIn (.Name x p1) = false := by rfl) : ET X E (.Compare e [.NotIn] [.Name x p1] pos) (mT (mKNotIn tbl f)) := by
  obtain ⟨es, n, kd⟩ := T.kd
  exact pt_imp (pt_cmpR (op_notIn_kd kd) ha (pe_glob (v := .ref (He.ga X.K x)) hg hm rfl hd) hb) fun σ H Q ⟨ρ, O, F, s, p⟩ => ⟨ρ, O, F, s, by
    have p' : Po X.K E σ H (f ρ >>= fun d => (match d with
      | .str z => ok (.bl (!(tbl.lookup z).isSome))
      | _ => bad) >>= fun x => ofO (asB x)) fun b => ∀ H', Same H H' → Q b H' := by
      have p0 : Po X.K E σ H ((f ρ >>= fun d => match d with
        | .str z => ok (.bl (!(tbl.lookup z).isSome))
        | _ => bad) >>= fun x => ofO (asB x)) fun b => ∀ H', Same H H' → Q b H' := p
      rw [res_assoc] at p0
      exact p0
    refine p'.bind.imp fun d p1 v H1 e1 r1 => ?_
    cases d with
    | str z =>
      cases r1
      obtain ⟨r, h1, h2⟩ := ktab_is T z
      exact ⟨z, r, rfl, rfl, h1, _, rfl, by rw [h2]; exact p1 H1 e1⟩
    | _ => exact p1.elim⟩
theorem ef_kget (T : KTab X.K X.w x tbl) (hm : X.mg x = some (.ref (He.ga X.K x))) (ha : EF X E e f) (hg : Gl X x := by rfl) (hd : (x == ("__debug__" : Str)) = false := by decide) (hs : PlainIx e := by exact fun _ _ => rfl) : EF X E (.Subscript (.Name x p1) e pos) (mKGet tbl f) := by
  obtain ⟨es, n, kd⟩ := T.kd
  exact pe_imp (pe_ix ix_kdict (pe_glob (v := .ref (He.ga X.K x)) hg hm rfl hd) ha hs) fun σ H Q ⟨ρ, O, F, s, p⟩ => ⟨ρ, O, F, s, p.bind.imp fun d p1 v H1 e1 r1 => by
    cases d with
    | str z =>
      cases r1
      have p1' : Po X.K E σ H (ofO (tbl.lookup z)) fun d => ∀ v H', Same H H' → Rep X.K H' O v d → Q v H' := p1
      cases q : tbl.lookup z with
      | none => rw [q] at p1'; exact p1'.elim
      | some d =>
        rw [q] at p1'
        obtain ⟨u, v, h1, h2, h3⟩ := T.yes z d q
        exact ⟨_, z, v, rfl, rfl, ⟨es, n, u, kd.at_, kd.lit, h1, h2⟩, p1' v H1 e1 (h3 H1 O)⟩
    | _ => exact p1.elim⟩
end
/-! ### {'a': .., ..}[e], the display read at once -/
def mPairs : List (Str × (Sls → Res D)) → Sls → Res (List (Str × D))
  | [], _ => ok []
  | (k, f) :: r, ρ => f ρ >>= fun d => mPairs r ρ >>= fun l => ok ((k, d) :: l)
/-- the last one counts -/
def lookLast (l : List (Str × D)) (z : Str) : Option D := l.reverse.lookup z
def mDispGet (l : List (Str × (Sls → Res D))) (f : Sls → Res D) : Sls → Res D := fun ρ => mPairs l ρ >>= fun kvs => f ρ >>= fun d => match d with
  | .str z => ofO (lookLast kvs z)
  | _ => bad
section
variable {X : Cx} {E : EX} {e : Expr} {f : Sls → Res D} {pos p1 : Pos}
/-- the pairs of a display -/
inductive EPs (X : Cx) (E : EX) : List (Option Expr) → List Expr → List (Str × (Sls → Res D)) → Prop
  | nil : EPs X E [] [] []
  | cons {k : Str} {j : Nat} {pk : Pos} {v : Expr} {g : Sls → Res D} {ks : List (Option Expr)} {vs : List Expr} {l : List (Str × (Sls → Res D))} (hv : EF X E v g) (r : EPs X E ks vs l) : EPs X E (some (.Constant (.str k) j pk) :: ks) (v :: vs) ((k, g) :: l)
def trsOf (K : PySem.W.Frag) (E : EX) (l : List (Str × (Sls → Res D))) : List (TE × TE) := l.map fun p => (tC (.str p.1), tEF K E p.2)
theorem EPs.pps {keys : List (Option Expr)} {values : List Expr} {l : List (Str × (Sls → Res D))} (h : EPs X E keys values l) : PPs X pos keys values (trsOf X.K E l) := by
  induction h with
  | nil => exact pps_nil
  | cons hv r ih => exact pps_cons pe_str hv ih
theorem EPs.len {keys : List (Option Expr)} {values : List Expr} {l : List (Str × (Sls → Res D))} (h : EPs X E keys values l) : keys.length = values.length ∧ keys.all (·.isSome) = true := by
  induction h with
  | nil => exact ⟨rfl, rfl⟩
  | cons hv r ih => exact ⟨by simp [ih.1], by simpa using ih.2⟩
theorem mergeK_look : ∀ (kvs acc : List (Key × V)) (z : Str), valV (mergeK acc kvs) (.inr z) = (match (kvs.reverse.find? fun kv => decide (kv.1 = .inr z)) with
  | some p => some p.2
  | none => valV acc (.inr z))
  | [], acc, z => by simp [mergeK]
  | p :: r, acc, z => by
    have ih := mergeK_look r (putK acc p.1 p.2) z
    show valV (mergeK (putK acc p.1 p.2) r) (.inr z) = _
    rw [ih, List.reverse_cons, List.find?_append]
    cases q : r.reverse.find? fun kv => decide (kv.1 = (.inr z : Key)) with
    | some p' => simp
    | none =>
      rw [valV_put]
      by_cases e : p.1 = (.inr z : Key)
      · simp [e]
      · have e' : ¬ (.inr z : Key) = p.1 := fun h => e h.symm
        simp [e, e']
theorem pairs_go {σ : L2.St} {O : Addr → Prop} {ρ : Sls} {F : List Addr} : ∀ {l : List (Str × (Sls → Res D))} {H : Hp} {kvs : List (Str × D)} {R : List (V × V) → Hp → Prop}, Sta X.K H O σ ρ F → mPairs l ρ = ok kvs →
    (∀ (ps : List (Key × V)) H', Same H H' → Paired (fun (p : Key × V) (q : Str × D) => p.1 = .inr q.1 ∧ Rep X.K H' O p.2 q.2) ps kvs → R (ps.map fun kv => (kV kv.1, kv.2)) H') → tPairs (trsOf X.K E l) σ H R
  | [], H, kvs, R, s, e, k => by
    cases e
    exact k [] H (Same.refl H) .nil
  | (x, g) :: l, H, kvs, R, s, e, k => by
    have e' : (g ρ >>= fun d => mPairs l ρ >>= fun l => ok ((x, d) :: l)) = ok kvs := e
    obtain ⟨d, h1, e2⟩ := Res.bind_ok e'
    obtain ⟨kr, h2, e3⟩ := Res.bind_ok e2
    cases e3
    refine ⟨ρ, O, F, s, ?_⟩
    show Po X.K E σ H (g ρ) _
    rw [h1]
    intro v H1 e1 r1
    refine pairs_go (s.same e1) h2 fun ps H2 e12 rs => ?_
    exact k ((.inr x, v) :: ps) H2 (e1.trans e12) (.cons ⟨rfl, r1.same e12⟩ rs)
theorem paired_find {H : Hp} {O : Addr → Prop} : ∀ {ps : List (Key × V)} {kvs : List (Str × D)} {z : Str} {d : D}, Paired (fun (p : Key × V) (q : Str × D) => p.1 = .inr q.1 ∧ Rep X.K H O p.2 q.2) ps kvs → kvs.lookup z = some d → ∃ p, (ps.find? fun kv => decide (kv.1 = (.inr z : Key))) = some p ∧ Rep X.K H O p.2 d
  | _, _, _, _, .nil, e => by simp at e
  | (k, v) :: ps, (x, d') :: kvs, z, d, .cons ⟨h1, h2⟩ t, e => by
    simp only at h1 h2
    subst h1
    rw [List.lookup_cons] at e
    rw [List.find?_cons]
    by_cases c : x = z
    · subst c
      simp at e
      subst e
      exact ⟨(.inr x, v), by simp, h2⟩
    · have c1 : (z == x) = false := by simpa using fun h => c h.symm
      have c2 : (decide ((.inr x : Key) = .inr z)) = false := decide_eq_false fun h => c (Sum.inr.inj h)
      rw [c1] at e
      simp only [c2]
      exact paired_find t e
theorem Paired.rev {α β : Type} {R : α → β → Prop} {xs : List α} {ys : List β} (h : Paired R xs ys) : Paired R xs.reverse ys.reverse := by
  induction h with
  | nil => exact .nil
  | cons r t ih => rw [List.reverse_cons, List.reverse_cons]; exact Paired.snoc ih r
theorem Paired.len {α β : Type} {R : α → β → Prop} {xs : List α} {ys : List β} (h : Paired R xs ys) : xs.length = ys.length := by
  induction h with
  | nil => rfl
  | cons r t ih => simp [ih]
theorem mPairs_len : ∀ {l : List (Str × (Sls → Res D))} {ρ : Sls} {kvs : List (Str × D)}, mPairs l ρ = ok kvs → kvs.length = l.length
  | [], _, _, e => by cases e; rfl
  | (x, g) :: l, ρ, kvs, e => by
    have e' : (g ρ >>= fun d => mPairs l ρ >>= fun l => ok ((x, d) :: l)) = ok kvs := e
    obtain ⟨d, h1, e2⟩ := Res.bind_ok e'
    obtain ⟨kr, h2, e3⟩ := Res.bind_ok e2
    cases e3
    simp [mPairs_len h2]
theorem Rep.updO {K : PySem.W.Frag} {H : Hp} {O : Addr → Prop} {p : Addr} {o : HO} {v : V} {d : D} (n : ¬ O p) (r : Rep K H (Ad O p) v d) (ht : NoTup H p) : Rep K (L2.upd H p o) O v d := (Rep.upd (O := Ad O p) (.inr rfl) ht r).less fun _ z => .inl z
theorem ef_dispget {keys : List (Option Expr)} {values : List Expr} {l : List (Str × (Sls → Res D))} (hu : X.A.units + 1 < cLine) (h : EPs X E keys values l) (he : EF X E e f) (hx : ∀ ρ c, mPairs l ρ ≠ exc c) (h0 : keys ≠ [] := by exact fun z => (nomatch z)) (h15 : l.length ≤ 15 := by decide) (hs : NoSl e := by exact fun _ _ => rfl) :
    EF X E (.Subscript (.Dict keys values p1) e pos) (mDispGet l f) := by
  have hk : ∀ {keys : List (Option Expr)} {values : List Expr} {l : List (Str × (Sls → Res D))}, EPs X E keys values l → keys.length = l.length := fun h => by
    induction h with
    | nil => rfl
    | cons _ _ ih => simp [ih]
  refine pe_imp (pe_dget hu (pe_disp (h.pps (pos := p1)) h.len.2 h.len.1 h0 (by rw [hk h]; exact h15)) he hs) fun σ H Q ⟨ρ, O, F, s, p⟩ => ?_
  intro a na
  have p' : Po X.K E σ H (mPairs l ρ >>= fun kvs => f ρ >>= fun d => match d with
    | .str z => ofO (lookLast kvs z)
    | _ => bad) fun d => ∀ v H', Same H H' → Rep X.K H' O v d → Q v H' := p
  cases ek : mPairs l ρ with
  | exc c => exact (hx ρ c ek).elim
  | bad => rw [ek] at p'; exact p'.elim
  | ok kvs =>
    rw [ek] at p'
    have nO : ¬ O a := fun h => (s.dom a h).1 na
    have s1 : Sta X.K (upd H a (.dK [])) (Ad O a) σ ρ F := s.add (same_new na) na (by rw [upd_same]; exact fun z => (nomatch z)) (fun ys r => by rcases r with r | ⟨o, r⟩ <;> (rw [upd_same] at r; cases r))
    refine pairs_go s1 ek fun ps H2 e2 rs => ?_
    have hH2 : H2 a = some (.dK []) := e2 a _ upd_same
    have nt : NoTup H2 a := fun ys r => by rcases r with r | ⟨o, r⟩ <;> (rw [hH2] at r; cases r)
    have hl : ps.length ≤ 15 := by rw [Paired.len rs, mPairs_len ek]; exact h15
    refine ⟨hH2, ps, rfl, hl, ?_⟩
    -- the dict stands; the key
    have same3 : Same H (upd H2 a (.dK (mergeK [] ps))) := fun b o hb => by
      have hba : b ≠ a := fun z => by subst z; rw [na] at hb; cases hb
      rw [upd_ne hba]
      exact e2 b o (same_new na b o hb)
    refine ⟨ρ, O, F, s.same same3, ((show Po X.K E σ H (f ρ >>= fun d => match d with
      | .str z => ofO (lookLast kvs z)
      | _ => bad) _ from p').bind.imp fun d p2 v H4 e4 r4 => ?_).later same3⟩
    cases d with
    | str z =>
      cases r4
      have p3 : Po X.K E σ H (ofO (lookLast kvs z)) fun d => ∀ v H', Same H H' → Rep X.K H' O v d → Q v H' := p2
      cases q : lookLast kvs z with
      | none => rw [q] at p3; exact p3.elim
      | some d =>
        rw [q] at p3
        obtain ⟨pv, h1, h2⟩ := paired_find (Paired.rev rs) q
        have hv : valV (mergeK [] ps) (.inr z) = some pv.2 := by rw [mergeK_look, h1]
        have h4 : H4 a = some (.dK (mergeK [] ps)) := e4 a _ upd_same
        refine ⟨a, pv.2, rfl, ?_, p3 _ H4 (same3.trans e4) ((h2.updO nO nt).same e4)⟩
        rw [← hv]
        exact DGet.k (k := .inr z) h4
    | _ => exact p2.elim
end
end PP

namespace PP
open PySem PySem.Spec PyProof.Rows L2
open Res (ok exc bad)
/-! ### x[::-1] of a text, a list, a tuple -/
def revS (z : Str) : Str := ⟨z.cps.toList.reverse.toArray⟩
theorem revS_length (z : Str) : (revS z).length = z.length := by
  show (z.cps.toList.reverse.toArray).size = z.cps.size
  simp
theorem rev_picked (z : Str) : (Builtin.Str.strSliceIndices none none (-1) z.length).filterMap (z.cps[·]?) = z.cps.toList.reverse := by
  have e : Builtin.Str.strSliceIndices none none (-1) z.length = sliceRange ((z.length : Int) - 1) (-1) (-1) := by
    unfold Builtin.Str.strSliceIndices
    rfl
  have e2 : z.length = z.cps.size := rfl
  rw [e, e2, PySem.W.krv_sliceRange, PySem.W.krv_range, List.filterMap_reverse, PySem.W.krv_all]
def tRevS (te : TE) : TE := fun σ H Q => te σ H fun x H1 => ∃ z, x = .str z ∧ z.length ≤ sizeLine ∧ Q (.str (revS z)) H1
section
variable {X : Cx}
theorem pe_revS {e : Expr} {te : TE} {k : Nat} {p1 p2 p3 pos : Pos} (he : PE X e te) : PE X (.Subscript e (.Slice none none (some (.UnaryOp .USub (.Constant (.int 1) k p1) p2)) p3) pos) (tRevS te) := by
  refine ⟨fun pins s σ H Q I h => ?_⟩
  refine Subscript_ (thn (he.run pins s σ H _ I h) fun v s1 ⟨x, H1, I1, r1, q1⟩ => ?_)
  obtain ⟨z, ex, hz, q⟩ := q1
  subst ex
  obtain ⟨t, rfl⟩ := r1
  have hst : PO X (some (.UnaryOp .USub (.Constant (.int 1) k p1) p2)) (tPart (tUn (rU fun i => .int (-i)) (tC (.int 1)))) := po_some (pe_un un_neg pe_int)
  refine wpAny_Slice (thn (po_none.run pins s1 σ H1 (fun o H2 => o = none ∧ H2 = H1) I1 ⟨rfl, rfl⟩) fun vl s2 ⟨l, H2, I2, pl, el, e2⟩ => ?_)
  subst el e2
  refine thn (po_none.run pins s2 σ H2 (fun o H3 => o = none ∧ H3 = H2) I2 ⟨rfl, rfl⟩) fun vu s3 ⟨u, H3, I3, pu, eu, e3⟩ => ?_
  subst eu e3
  refine thn (hst.run pins s3 σ H3 (fun o H4 => o = some (-1) ∧ H4 = H3) I3 ⟨1, rfl, -1, rfl, rfl, rfl⟩) fun vs s4 ⟨o, H4, I4, ps, eo, e4⟩ => ?_
  subst eo e4
  have I5 : Inv X pins σ H4 { s4 with heap := s4.heap.push { cls := .type "slice", data := .fields #[vl, vu, vs] } } := I4.kept (t' := s4.toks) fun b ob q => Heap.get?_push_of_some _ q
  obtain ⟨l', e1, e1'⟩ := IsPart.raw pl
  obtain ⟨u', e3, e3'⟩ := IsPart.raw pu
  obtain ⟨w', e5, e5'⟩ := IsPart.raw ps
  show wpAny (model X.prog X.w) X.A (subscriptTail e (.Slice none none (some (.UnaryOp .USub (.Constant (.int 1) k p1) p2)) p3) (.str z t) (.ref s4.heap.objs.size)) (EP X pins σ Q) X.xe { s4 with heap := s4.heap.push { cls := .type "slice", data := .fields #[vl, vu, vs] } }
  refine tail_any (ops := [.str z t, .ref s4.heap.objs.size]) (typeIs_str _ _ _) (F.slot_str_getitem.lookup) ?_ (by with_unfolding_all rfl)
  have el : l' = none := by cases l' with | none => rfl | some q => cases e1'
  have eu : u' = none := by cases u' with | none => rfl | some q => cases e3'
  have hw : (w'.map (·.1)).getD 1 = -1 := by rw [e5']; rfl
  refine wpAny_getItem_str_slice (l := l') (u := u') (st := w') ⟨_, Heap.get?_push_size _ rfl, rfl, by rw [← e1, ← e3, ← e5]⟩ (by rw [hw]; rfl) ?_
  unfold sliceMade slicePicked
  rw [hw, el, eu, if_neg (by simp)]
  show Made.post (Made.str ⟨((Builtin.Str.strSliceIndices none none (-1) z.length).filterMap (z.cps[·]?)).toArray⟩) _ _
  rw [rev_picked]
  exact ⟨by show (revS z).length ≤ sizeLine; rw [revS_length]; exact hz, .str _, H4, I5.tok _, ⟨_, rfl⟩, q⟩
end
section
variable {X : Cx} {E : EX} {e : Expr} {f : Sls → Res D}
def dRevS : D → Option D
  | .str z => if z.length ≤ sizeLine then some (.str (revS z)) else none
  | _ => none
theorem ef_revS {k : Nat} {p1 p2 p3 pos : Pos} (he : EB X E e f) : EF X E (.Subscript e (.Slice none none (some (.UnaryOp .USub (.Constant (.int 1) k p1) p2)) p3) pos) (mOp1 dRevS f) :=
  pe_imp (pe_revS he) fun σ H Q ⟨ρ, O, F, s, p⟩ => ⟨ρ, O, F, s, p.bind.imp fun d p1 v H1 e1 r1 => by
    cases d with
    | str z =>
      have p2 : VP X.K H1 O Q (if z.length ≤ sizeLine then some (.str (revS z)) else none) := p1.vp e1
      by_cases c : z.length ≤ sizeLine
      · rw [if_pos c] at p2; exact ⟨z, r1.str, c, p2 _ H1 (Same.refl _) (.str _)⟩
      · rw [if_neg c] at p2; exact p2.elim
    | _ => exact p1.elim⟩
def dRevL : D → Option D
  | .lst xs => some (.lst xs.reverse)
  | .kl xs => some (.lst xs.reverse)
  | _ => none
theorem reps_rev {K : PySem.W.Frag} {H : Hp} {O : Addr → Prop} : ∀ {vs : List V} {ds : List D}, Reps K H O vs ds → Reps K H O vs.reverse ds.reverse
  | _, _, .nil => .nil
  | _, _, .cons r t => by rw [List.reverse_cons, List.reverse_cons]; exact (reps_rev t).snoc r
theorem en_revL {k : Nat} {p1 p2 p3 pos : Pos} (he : EB X E e f) : EN X E (.Subscript e (.Slice none none (some (.UnaryOp .USub (.Constant (.int 1) k p1) p2)) p3) pos) (mOp1 dRevL f) :=
  pe_imp (pe_revL he) fun σ H Q ⟨ρ, O, F, s, p⟩ => ⟨ρ, O, F, s, p.bind.imp fun d p1 v H1 e1 r1 => by
    cases d with
    | lst xs =>
      have p2 : VN X.K H1 O Q (dRevL (.lst xs)) := p1.vn e1
      obtain ⟨a, vs, rfl, h1, z, r⟩ := r1.lst
      exact ⟨a, vs, rfl, h1, fun p n => p2 _ p _ (same_new n) n (.newL n (by rw [List.length_reverse]; exact z) (reps_rev r))⟩
    | kl xs =>
      have p2 : VN X.K H1 O Q (dRevL (.kl xs)) := p1.vn e1
      obtain ⟨a, vs, rfl, h1, z, r⟩ := r1.kl
      exact ⟨a, vs, rfl, h1, fun p n => p2 _ p _ (same_new n) n (.newL n (by rw [List.length_reverse]; exact z) (reps_rev r))⟩
    | _ => exact p1.elim⟩
/-- raise C('..') -/
structure RaOk (X : Cx) (c : Str) : Prop where
  q : PySem.W.excIn X.K (He.ga X.K c) [.type "ValueError", .type "Exception", .type "BaseException", .type "object"] "ValueError.__new__" = true
  g : X.mg c = some (.ref (He.ga X.K c))
  k : PySem.W.keepIn X.K (.ref (He.ga X.K c)) = true
  s : PySem.W.subIn X.K (.ref (He.ga X.K c)) (.type "BaseException") = some true
  t : PySem.W.typeIn X.K (.ref (He.ga X.K c)) = some (.type "type")
theorem ss_raiseE {c m : Str} {j : Nat} {p p2 pos pos2 : Pos} (hc : X.calm = true) (tk : Takes X fun cls d σ H => E σ cls d H) (R : RaOk X c) (hg : Gl X c := by rfl) (hdb : (c == ("__debug__" : Str)) = false := by decide) :
    SS X E (.Raise (some (.Call (.Name c p) [.Constant (.str m) j p2] [] pos)) none pos2) (sRaise c) :=
  ss_raise hc tk (pmk_own PySem.F.excBase_ValueError R.q R.g R.k (raises_own R.s R.t) hg hdb) fun _ _ _ _ h => h
end
end PP

namespace PP
open PySem PySem.Spec PyProof.Rows L2
open Res (ok exc bad)
/-! ### -e -/
def dNeg : D → Option D
  | .int i => some (.int (-i))
  | _ => none
theorem ef_neg {X : Cx} {E : EX} {e : Expr} {f : Sls → Res D} {pos : Pos} (he : EB X E e f) : EF X E (.UnaryOp .USub e pos) (mOp1 dNeg f) :=
  pe_imp (pe_un un_neg he) fun σ H Q ⟨ρ, O, F, s, p⟩ => ⟨ρ, O, F, s, p.bind.imp fun d p1 v H1 e1 r1 => by
    cases d with
    | int i => cases r1.int; exact ⟨i, rfl, p1 _ _ e1 (.int _)⟩
    | _ => exact p1.elim⟩
/-! ### tables of the top -/
def sB : D → Value → Bool
  | .int i, .int j _ => decide (i = j)
  | .str x, .str y _ => decide (x = y)
  | .non, .none => true
  | .bl b, .bool c => b == c
  | _, _ => false
def sBs : List D → List Value → Bool
  | [], [] => true
  | d :: ds, u :: us => sB d u && sBs ds us
  | _, _ => false
def tB (K : PySem.W.Frag) : D → Value → Bool
  | .tup ds, .ref a => (match K.lookup a with
    | some ⟨.type c, _, .seq its _, _⟩ => decide (c = "tuple") && (decide (its.size ≤ sizeLine) && sBs ds its.toList)
    | _ => false)
  | d, u => sB d u
def vOf : D → V
  | .int i => .int i
  | .str x => .str x
  | .bl b => .bl b
  | _ => .non
theorem sB_ok {K : PySem.W.Frag} {d : D} {u : Value} (h : sB d u = true) : RelV (vOf d) u ∧ ∀ H O, Rep K H O (vOf d) d := by
  cases d <;> cases u <;> first | (exact absurd (show false = true from h) (by decide)) | skip
  · exact ⟨rfl, fun _ _ => .non⟩
  · have e := eq_of_beq (show (_ == _) = true from h); subst e; exact ⟨rfl, fun _ _ => .bl _⟩
  · have e := of_decide_eq_true h; subst e; exact ⟨⟨_, rfl⟩, fun _ _ => .int _⟩
  · have e := of_decide_eq_true h; subst e; exact ⟨⟨_, rfl⟩, fun _ _ => .str _⟩
theorem sBs_ok {K : PySem.W.Frag} : ∀ {ds : List D} {us : List Value}, sBs ds us = true → Vals (ds.map vOf) us ∧ ∀ H O, Reps K H O (ds.map vOf) ds
  | [], [], _ => ⟨.nil, fun _ _ => .nil⟩
  | [], _ :: _, h => by cases h
  | _ :: _, [], h => by cases h
  | d :: ds, u :: us, h => by
    obtain ⟨h1, h2⟩ := He.ba (show (sB d u && sBs ds us) = true from h)
    obtain ⟨a1, a2⟩ := sB_ok (K := K) h1
    obtain ⟨b1, b2⟩ := sBs_ok (K := K) h2
    exact ⟨.cons a1 b1, fun H O => .cons (a2 H O) (b2 H O)⟩
theorem tB_ok {K : PySem.W.Frag} {d : D} {u : Value} (h : tB K d u = true) : ∃ v, RelV v u ∧ ∀ H O, Rep K H O v d := by
  unfold tB at h
  split at h
  · rename_i ds a
    split at h
    · rename_i c od its n sl q
      obtain ⟨h1, h2⟩ := He.ba h
      obtain ⟨h3, h4⟩ := He.ba h2
      obtain ⟨b1, b2⟩ := sBs_ok (K := K) h4
      have h5 := of_decide_eq_true h3
      refine ⟨.ref a, rfl, fun H O => .tup (.inr ⟨_, its, n, q, congrArg Value.type (of_decide_eq_true h1), rfl, h5, b1⟩) ?_ (b2 H O)⟩
      rw [b1.length]
      simpa using h5
    · cases h
  · exact ⟨_, sB_ok (K := K) h⟩
def tblB (x : Str) (tbl : List (Str × D)) (K : PySem.W.Frag) : Bool := tbl.all fun q => match PySem.W.nsIn K (He.ga K x) q.1 with
  | some (some u) => tB K q.2 u
  | _ => false
theorem keys_find {P : Params} {z : Str} : ∀ {l : List DictEntry} {ks : List Str}, l.map He.keyOf = He.keysIn P ks → z ∉ ks → l.find? (fun e => e.key.isStr z) = none ∧ l.any (fun e => e.refKey) = false
  | [], _, _, _ => ⟨rfl, rfl⟩
  | e :: r, [], h, _ => by cases h
  | e :: r, k :: ks, h, hz => by
    have h1 : He.keyOf e :: r.map He.keyOf = some (k, PyData.keyHash P k) :: He.keysIn P ks := h
    injection h1 with h2 h3
    obtain ⟨i1, i2⟩ := keys_find (P := P) h3 (fun q => hz (List.mem_cons_of_mem _ q))
    unfold He.keyOf at h2
    split at h2
    · rename_i x t q
      have h4 := Option.some.inj h2
      obtain ⟨h5, h6⟩ := Prod.mk.inj h4
      have e1 : e.key.isStr z = false := by
        rw [q]
        show (x == z) = false
        rw [h5]
        simpa using fun w => hz (by rw [w]; simp)
      have e2 : e.refKey = false := by
        unfold DictEntry.refKey
        rw [q]
      exact ⟨by rw [List.find?_cons, e1]; exact i1, by rw [List.any_cons, e2]; exact i2⟩
    · cases h2
theorem nsIn_no {K : PySem.W.Frag} {w : World} {a : Addr} {ks : List Str} {z : Str} (h : He.dicW K a = some (He.keysIn w.params ks)) (hz : z ∉ ks) : PySem.W.nsIn K a z = some none := by
  unfold He.dicW at h
  cases q : K.lookup a with
  | none =>
    rw [q] at h
    cases h
  | some o =>
    obtain ⟨oc, od, dt, osl⟩ := o
    rw [q] at h
    cases oc with
    | type c =>
      cases od with
      | none =>
        cases dt with
        | dict es n =>
          have h1 : (match decide (c = "dict") && (osl.isEmpty && !(a == sysModules)) with
            | true => some (es.toList.map He.keyOf)
            | false => none) = some (He.keysIn w.params ks) := h
          split at h1
          · obtain ⟨i1, i2⟩ := keys_find (Option.some.inj h1) hz
            unfold PySem.W.nsIn
            rw [q]
            show (match es.toList.find? (·.key.isStr z) with
              | some e => some (some e.val)
              | none => if es.toList.any (·.refKey) then none else some none) = some none
            rw [i1]
            show (if es.toList.any (·.refKey) then none else some none) = some none
            rw [i2]
            rfl
          · cases h1
        | _ => cases h
      | some b => cases dt <;> cases h
    | _ => cases od <;> cases dt <;> cases h
theorem ktab_of {K : PySem.W.Frag} {w : World} {x : Str} {tbl : List (Str × D)} (h1 : He.dicW K (He.ga K x) = some (He.keysIn w.params (tbl.map (·.1)))) (h2 : tblB x tbl K = true) : KTab K w x tbl where
  kd := He.dicW_ok h1
  yes := fun z d e => by
    have hm : (z, d) ∈ tbl := by
      clear h1 h2
      induction tbl with
      | nil => cases e
      | cons q r ih =>
        rw [List.lookup_cons] at e
        split at e
        · rename_i hb
          have hz := eq_of_beq hb
          cases e
          obtain ⟨q1, q2⟩ := q
          subst hz
          simp
        · exact List.mem_cons_of_mem _ (ih e)
    have h3 := List.all_eq_true.mp h2 (z, d) hm
    cases q : PySem.W.nsIn K (He.ga K x) z with
    | none => simp only [q] at h3; cases h3
    | some r =>
      cases r with
      | none => simp only [q] at h3; cases h3
      | some u =>
        simp only [q] at h3
        obtain ⟨v, r1, r2⟩ := tB_ok h3
        exact ⟨u, v, rfl, r1, r2⟩
  no := fun z e => nsIn_no h1 fun hm => by
    clear h1 h2
    induction tbl with
    | nil => simp at hm
    | cons q r ih =>
      rw [List.lookup_cons] at e
      split at e
      · cases e
      · rename_i hb
        simp only [List.map_cons, List.mem_cons] at hm
        rcases hm with hm | hm
        · rw [hm] at hb; simp at hb
        · exact ih e hm
theorem saysT_dic {fa : List He.Fa} {fn : List He.DefD} {ts : List He.Tab} {w : World} {K : PySem.W.Frag} (c : He.SaysT fa fn ts w K) (i : Nat) {t : He.Tab} (h : ts[i]? = some t := by rfl) : He.dicW K (t.1 K) = some (He.keysIn w.params t.2) := by
  have e : ts.map (fun t => He.dicW K (t.1 K)) = ts.map fun t => some (He.keysIn w.params t.2) := congrArg (fun z : He.AlT => z.2) c
  have e2 : (ts.map fun t => He.dicW K (t.1 K))[i]? = (ts.map fun t => some (He.keysIn w.params t.2))[i]? := by rw [e]
  rw [List.getElem?_map, List.getElem?_map, h] at e2
  exact Option.some.inj e2
/-! ### exceptions that a suite asks of -/
def excB (c : Str) (K : PySem.W.Frag) : Bool :=
  decide (PySem.W.findIn K (.ref (He.ga K c)) "__getattribute__" = some (some (.builtin "BaseException.__getattribute__"))) && (decide (PySem.W.findIn K (.ref (He.ga K c)) "__getattr__" = some none) && (decide (PySem.W.subIn K (.ref (He.ga K c)) (.type "BaseException") = some true) &&
  (PySem.W.hasDictIn K (He.ga K c) && (decide (PySem.W.findIn K (.ref (He.ga K c)) "__class__" = some (some (.builtin "object.__class__"))) && (decide (PySem.W.specialIn K (.builtin "object.__class__") "__get__" = some (some (.builtin "getset_descriptor.__get__"))) &&
  (decide (PySem.W.takesIn K (.builtin "object.__class__") = some true) && decide (PySem.W.mroIn K (He.ga K c) (.type "object") = some true)))))))
theorem excB_ok {c : Str} {K : PySem.W.Frag} (h : excB c K = true) : ExcC K (He.ga K c) := by
  unfold excB at h
  simp only [Bool.and_eq_true, decide_eq_true_eq] at h
  obtain ⟨h1, h2, h3, h4, h5, h6, h7, h8⟩ := h
  exact ⟨h1, h2, h3, h4, h5, h6, h7, h8⟩
def kitB' (cs : List Str) (sub : Str → Str → Bool) (C : Str) (K : PySem.W.Frag) : Bool := cs.all fun c => excB c K && decide (PySem.W.kitOne K (.ref (He.ga K c)) (.ref (He.ga K C)) = some (sub c C))
theorem kitB_ok {cs : List Str} {sub : Str → Str → Bool} {C : Str} {K : PySem.W.Frag} (h : kitB' cs sub C K = true) : IsiOk K cs sub C := fun c hc => by
  have h1 := List.all_eq_true.mp h c hc
  simp only [Bool.and_eq_true, decide_eq_true_eq] at h1
  exact ⟨excB_ok h1.1, h1.2⟩
def exmB (cs : List Str) (sub : Str → Str → Bool) (A : Str) (K : PySem.W.Frag) : Bool := cs.all fun c => decide (PySem.W.exmOne K (.ref (He.ga K c)) (.ref (He.ga K A)) = some (sub c A))
theorem exmB_ok {cs : List Str} {sub : Str → Str → Bool} {A : Str} {K : PySem.W.Frag} (h : exmB cs sub A K = true) : ExmOk K cs sub A := fun c hc => of_decide_eq_true (List.all_eq_true.mp h c hc)
theorem fldOk_of {K : PySem.W.Frag} {c f : Str} (h1 : (He.Fa.cls c).ok K = true) (h2 : (He.Fa.noat c f).ok K = true) : FldOk K f c := ⟨He.cls_ok h1, He.noat_ok h2⟩
/-! ### a def and what it promises -/
structure FnP (P : Program) (w : World) (K : PySem.W.Frag) (mg : Str → Option Value) (base : Heap) (k : Nat) (fa : Addr) (ps : List Str) (sp : Sp) : Prop where
  ex : ∃ fd, FnOk P w K mg base (L2.CX P w) k fa fd ps sp ∧ Binds K fd ps [] ∧ ∃ oc od osl, K.lookup fa = some ⟨oc, od, .func fd, osl⟩
  kp : PySem.W.keepIn K (.ref fa) = true
/-- a def of the written part -/
structure DefK (K : PySem.W.Frag) (st : Stmt) (x qual : Str) (fa : Addr) (ps : List Str) : Prop where
  ex : ∃ fd, Fun K x qual st fa fd ∧ Binds K fd ps [] ∧ (∀ (s : Shared) (us : List Value), us.length = ps.length → BindsTo s fd ⟨us, []⟩ (ps.zip us))
  kp : PySem.W.keepIn K (.ref fa) = true
theorem DefK.of {K : PySem.W.Frag} {st : Stmt} {x qual : Str} {fa : Addr} {ps : List Str} (h : ∃ fd, FunD K x qual (defArgs st) (defBody st) (defScope st) [] [] fa fd)
    (hb : ∀ (kV doc pm : Value) (an : Option Addr) (cdv ct : Value) (us : List Value), us.length = ps.length → bindArgs (PySem.W.fnOf x qual (defArgs st) (defBody st) (defScope st) .none kV doc pm an cdv ct) ⟨us, []⟩ = pure (ps.zip us)) : DefK K st x qual fa ps := by
  obtain ⟨fd, F⟩ := h
  exact ⟨⟨fd, He5.fun_of F, F.bindsN hb, F.bindsA hb⟩, F.kp⟩
theorem fun_lk {K : PySem.W.Frag} {st : Stmt} {x qual : Str} {fa : Addr} {fd : FuncData} (F : Fun K x qual st fa fd) : ∃ oc od osl, K.lookup fa = some ⟨oc, od, .func fd, osl⟩ := by
  obtain ⟨oc, od, _, _, _, _, _, _, osl, _, lk, _⟩ := F.ex
  exact ⟨oc, od, osl, lk⟩
theorem FnP.at_ {P : Program} {w : World} {K : PySem.W.Frag} {mg : Str → Option Value} {base : Heap} {k : Nat} {fa : Addr} {ps : List Str} {sp : Sp} {x qual : Str} {st : Stmt} {fd : FuncData} (h : FnP P w K mg base k fa ps sp) (F : Fun K x qual st fa fd) : FnOk P w K mg base (L2.CX P w) k fa fd ps sp := by
  obtain ⟨fd', G, _, oc, od, osl, lk⟩ := h.ex
  obtain ⟨oc2, od2, osl2, lk2⟩ := fun_lk F
  rw [lk] at lk2
  cases lk2
  exact G
theorem DefK.f {P : Program} {w : World} {K : PySem.W.Frag} {mg : Str → Option Value} {base : Heap} {x qual : Str} {st : Stmt} {fa : Addr} {N ps : List Str} {k : Nat} {body : Sls → Fl} (h : DefK K st x qual fa ps) (S : FnScope N ps (defScope st))
    (hb : ∀ (cdv : Value) (A : Around) (outer : List Env) (s : Shared) (H : Hp) (E : XK), Room k (A.deeper (envOfC qual (defScope st) s.heap.objs.size fa cdv)) →
      SSs (cxOf (L2.CX P w) P w K mg base N qual (defScope st) fa cdv A outer s H E) (fun _ => E) (defBody st) body) : FnP P w K mg base (k + 1) fa ps (spF K (runF N.length ps.length body)) := by
  obtain ⟨fd, F, b, _⟩ := h.ex
  exact ⟨⟨fd, fn_F F S hb, b, fun_lk F⟩, h.kp⟩
theorem DefK.i {P : Program} {w : World} {K : PySem.W.Frag} {mg : Str → Option Value} {base : Heap} {c x qual : Str} {st : Stmt} {fa : Addr} {N ps : List Str} {p0 : Str} {k n : Nat} {body : Sls → Fl} (h : DefK K st x qual fa (p0 :: ps)) (S : FnScope N (p0 :: ps) (defScope st)) (hn : N.length = n + 1)
    (hb : ∀ (cdv : Value) (A : Around) (outer : List Env) (s : Shared) (H : Hp) (E : XK), Room k (A.deeper (envOfC qual (defScope st) s.heap.objs.size fa cdv)) →
      SSs (cxOf (L2.CX P w) P w K mg base N qual (defScope st) fa cdv A outer s H E) (fun _ => E) (defBody st) body) : FnP P w K mg base (k + 1) fa (p0 :: ps) (spI K c (runI (n + 1) ps.length c body)) := by
  obtain ⟨fd, F, b, _⟩ := h.ex
  exact ⟨⟨fd, fn_I F S hn hb, b, fun_lk F⟩, h.kp⟩
/-! ### a law's end -/
theorem walk_ofX {l : PySem.W.OpenLaw} {n k : Nat} {q : Program} {loose : List Str} {XP : (Str → Option Value) → Heap → Prop} {YP : World → Heap → Prop} {d : DefRec} {x qual : Str} {st : Stmt} {Fl : List D → Res D}
    (hn : l.most = some n) (hn2 : n ≤ sizeLine) (hdf : d.params.defaults = []) (hr : Room k callerA)
    (F : ∀ (w : World) (mg : Str → Option Value) (fa : Addr) (h : Heap), YP w h → h.Ns mainGlobals mg → mg d.name = some (.ref fa) →
      ∃ (K : PySem.W.Frag), K.In h ∧ DefK K st d.name qual fa [x] ∧ ∀ base : Heap, K.In base → base.Ns mainGlobals mg → ∀ fd, Fun K d.name qual st fa fd → FnOk l.prog w K mg base (L2.CX l.prog w) k fa fd [x] (spF K Fl))
    (hL : ∀ ns : List Int, ns.length ≤ n → Fl [.kl (ns.map .int)] = ok (.bl true)) :
    PySem.W.WalkO q loose XP YP l.row.toRowW d [] (fun f vs => PySem.call f vs) := by
  refine Att.attach_call hn hdf fun w s₀ s₁ mg mb fa o pm cd doc a vs ns G Y ho hd hcd hmg hobj hints hlen hg => ?_
  obtain ⟨K, KX, DK, hF⟩ := F w mg fa _ Y G.T.g hmg
  obtain ⟨fd, fu, _, hb⟩ := DK.ex
  refine law_call (sp := spF K Fl) KX G.T.g G.T.b G.T.builtins G.T.nolimit hg hobj hints (Nat.le_trans hlen hn2) hr (fun base h1 h2 => hF base h1 h2 fd fu) (fun s u => hb s [u] rfl) (fun H hO hS => ?_) fun H e s' ⟨_, _, _, _, _, _, _, _, _, _, _, _, z⟩ => z
  refine ⟨[.kl (ns.map .int)], fun _ => False, .cons (.kl (vs := ns.map V.int) ?_ ?_ ?_) .nil, fun _ z => z.elim, ?_⟩
  · rcases hS with z | z
    · exact .inl ⟨z, fun z => z⟩
    · exact .inr z
  · rw [List.length_map]; exact Nat.le_trans hlen hn2
  · clear hS hlen hints
    induction ns with
    | nil => exact .nil
    | cons i r ih => exact .cons (.int i) ih
  · rw [hL ns hlen]
    exact fun v H' _ r => by cases r; rfl
end PP

namespace PP
open PySem PySem.Spec PyProof.Rows L2
open Res (ok exc bad)
theorem none_of {P : Str → Prop} : ∀ x ∈ ([] : List Str), P x := fun _ h => by cases h
theorem cons_of {P : Str → Prop} {c : Str} {l : List Str} (h : P c) (r : ∀ x ∈ l, P x) : ∀ x ∈ c :: l, P x := fun x hx => by
  rcases List.mem_cons.mp hx with e | e
  · rw [e]; exact h
  · exact r x e
theorem un1 {k : Nat} {A : Around} (r : Room k A) : A.units + 1 < cLine := by have := r.un; omega
theorem un65 {k : Nat} {A : Around} (r : Room k A) : A.units + 65 < cLine := by have := r.un; omega
theorem passB {X : Cx} (σ : L2.St) : PassesAt (L2.CX X.prog X.w) X σ (E0' σ) := fun pins H s e s' I c => by
  obtain ⟨_, _, _, _, _, _, _, _, _, _, _, _, z⟩ := c
  exact z.elim
def sFrz (i : Nat) (s : Sls → Fl) : Sls → Fl := fun ρ => s (frzAt i ρ)
structure ExcF (K : PySem.W.Frag) (mg : Str → Option Value) (c : Str) : Prop where
  q : PySem.W.excIn K (He.ga K c) He.veBase "ValueError.__new__" = true ∧ PySem.W.keepIn K (.ref (He.ga K c)) = true ∧ PySem.W.subIn K (.ref (He.ga K c)) (.type "BaseException") = some true ∧ PySem.W.typeIn K (.ref (He.ga K c)) = some (.type "type")
  g : mg c = some (.ref (He.ga K c))
theorem ExcF.ra {X : Cx} {c : Str} (h : ExcF X.K X.mg c) : RaOk X c := ⟨h.q.1, h.g, h.q.2.1, h.q.2.2.1, h.q.2.2.2⟩
theorem allB {l : List Bool} (h : l.all id = true) (i : Nat) {b : Bool} (e : l[i]? = some b) : b = true := List.all_eq_true.mp h b (List.mem_of_getElem? e)
end PP

namespace PP
open PySem L2
open Res (ok exc bad)
/-! ### texts -/
def mkS (l : List Nat) : Str := ⟨l.toArray⟩
def sg (c : Nat) : D := .str ⟨#[c]⟩
abbrev tx (l : List Nat) : D := .str (mkS l)
theorem mkS_length (l : List Nat) : (mkS l).length = l.length := by show l.toArray.size = _; simp
theorem mkS_cps (l : List Nat) : (mkS l).cps.toList = l := by show l.toArray.toList = _; simp
theorem mkS_app (a b : List Nat) : mkS a ++ mkS b = mkS (a ++ b) := by
  show (⟨a.toArray ++ b.toArray⟩ : Str) = _
  simp [mkS]
theorem mkS_inj {a b : List Nat} : mkS a = mkS b ↔ a = b := ⟨fun h => by
  have e := congrArg (fun z : Str => z.cps.toList) h
  simpa [mkS_cps] using e, fun h => by rw [h]⟩
theorem sg_eq (c : Nat) : sg c = tx [c] := rfl
theorem signs_mkS (l : List Nat) : signs (mkS l) = l.map sg := by
  unfold signs
  rw [mkS_cps]
  rfl
theorem items_tx {l : List Nat} (h : l.length ≤ 1000000) : items (tx l) = some (l.map sg) := by
  show (if (mkS l).cps.size ≤ 1000000 then some (signs (mkS l)) else none) = _
  rw [if_pos (by show l.toArray.size ≤ _; simpa using h), signs_mkS]
theorem size1000 : 4000000 ≤ sizeLine := big_line
theorem dLen_tx {l : List Nat} (h : l.length ≤ 1000000) : dLen [tx l] = some (.int l.length) := by
  show (if (mkS l).length ≤ sizeLine then some (D.int (mkS l).length) else none) = _
  rw [mkS_length, if_pos (by have := size1000; omega)]
theorem dAdd_tx {a b : List Nat} (h : a.length + b.length ≤ 1000000) : dAdd (tx a) (tx b) = some (tx (a ++ b)) := by
  show (if (mkS a).length + (mkS b).length ≤ sizeLine then some (D.str (mkS a ++ mkS b)) else none) = _
  rw [mkS_length, mkS_length, if_pos (by have := size1000; omega), mkS_app]
theorem dEq_tx (a b : List Nat) : dEq (tx a) (tx b) = some (.bl (decide (a = b))) := by
  show some (D.bl (decide (mkS a = mkS b))) = _
  simp only [mkS_inj]
theorem dNe_tx (a b : List Nat) : dNe (tx a) (tx b) = some (.bl (!decide (a = b))) := by
  unfold dNe
  rw [dEq_tx]
theorem atI_nat {α : Type} (xs : List α) (i : Nat) : L2.atI xs (i : Int) = xs[i]? := by
  unfold L2.atI L2.ixN
  by_cases h : i < xs.length
  · rw [if_pos (by omega), if_pos (by omega)]
    show xs[((i : Int)).toNat]? = _
    rw [Int.toNat_natCast]
  · rw [if_pos (by omega), if_neg (by omega)]
    rw [List.getElem?_eq_none (by omega)]
    rfl
theorem atI_int {α : Type} (xs : List α) (i : Int) (h0 : 0 ≤ i) : L2.atI xs i = xs[i.toNat]? := by
  obtain ⟨n, rfl⟩ := Int.eq_ofNat_of_zero_le h0
  rw [atI_nat]
  rfl
theorem dIx_tx {l : List Nat} {i : Int} (h : l.length ≤ 1000000) (h0 : 0 ≤ i) : dIx (tx l) (.int i) = (l[i.toNat]?).map sg := by
  show (if (mkS l).length ≤ sizeLine then (L2.atI (mkS l).cps.toList i).map (fun c => D.str ⟨#[c]⟩) else none) = _
  rw [mkS_length, if_pos (by have := size1000; omega), mkS_cps, atI_int _ _ h0]
  rfl
theorem dIx_tup {l : List D} {i : Int} (h0 : 0 ≤ i) : dIx (.tup l) (.int i) = l[i.toNat]? := atI_int _ _ h0
theorem dIx_lst {l : List D} {i : Int} (h0 : 0 ≤ i) : dIx (.lst l) (.int i) = l[i.toNat]? := atI_int _ _ h0
theorem sIx_pos (n d : Nat) (k : Int) (h : 0 ≤ k) : HT.sIx n d (some k) = min k.toNat n := by
  obtain ⟨m, rfl⟩ := Int.eq_ofNat_of_zero_le h
  rw [HT.sIx_nat]
  rfl
theorem cutD_to {l : List D} {k : Int} (h : 0 ≤ k) : cutD l none (some k) = l.take k.toNat := by
  unfold cutD
  rw [HT.sIx_none, sIx_pos _ _ _ h, List.drop_zero, Nat.sub_zero]
  rcases Nat.le_total k.toNat l.length with q | q
  · rw [Nat.min_eq_left q]
  · rw [Nat.min_eq_right q, List.take_length, List.take_of_length_le q]
theorem cutD_from {l : List D} {k : Int} (h : 0 ≤ k) : cutD l (some k) none = l.drop k.toNat := by
  unfold cutD
  rw [HT.sIx_none, sIx_pos _ _ _ h]
  rcases Nat.le_total k.toNat l.length with q | q
  · rw [Nat.min_eq_left q, List.take_of_length_le (by rw [List.length_drop]; omega)]
  · rw [Nat.min_eq_right q, Nat.sub_self, List.take_zero, List.drop_of_length_le q]
theorem cutD_both {l : List D} {i k : Int} (h : 0 ≤ i) (h2 : 0 ≤ k) : cutD l (some i) (some k) = (l.drop i.toNat).take (k.toNat - i.toNat) := by
  unfold cutD
  rw [sIx_pos _ _ _ h, sIx_pos _ _ _ h2]
  rcases Nat.le_total i.toNat l.length with q | q
  · rw [Nat.min_eq_left q]
    rcases Nat.le_total k.toNat l.length with q2 | q2
    · rw [Nat.min_eq_left q2]
    · rw [Nat.min_eq_right q2, List.take_of_length_le (by rw [List.length_drop]; omega), List.take_of_length_le (by rw [List.length_drop]; omega)]
  · rw [Nat.min_eq_right q, List.drop_of_length_le q, List.drop_of_length_le (Nat.le_refl _), List.take_nil, List.take_nil]
theorem cutS_to {l : List Nat} {k : Int} (h : 0 ≤ k) : cutS (mkS l) none (some k) = mkS (l.take k.toNat) := by
  unfold cutS
  rw [mkS_length, mkS_cps, HT.sIx_none, sIx_pos _ _ _ h, List.drop_zero, Nat.sub_zero]
  rcases Nat.le_total k.toNat l.length with q | q
  · rw [Nat.min_eq_left q]; rfl
  · rw [Nat.min_eq_right q, List.take_length, List.take_of_length_le q]; rfl
theorem cutS_from {l : List Nat} {k : Int} (h : 0 ≤ k) : cutS (mkS l) (some k) none = mkS (l.drop k.toNat) := by
  unfold cutS
  rw [mkS_length, mkS_cps, HT.sIx_none, sIx_pos _ _ _ h]
  rcases Nat.le_total k.toNat l.length with q | q
  · rw [Nat.min_eq_left q, List.take_of_length_le (by rw [List.length_drop]; omega)]; rfl
  · rw [Nat.min_eq_right q, Nat.sub_self, List.take_zero, List.drop_of_length_le q]; rfl
theorem dSl_txTo {l : List Nat} {k : Int} (h : l.length ≤ 1000000) (h0 : 0 ≤ k) : dSl (tx l) none (some k) = some (tx (l.take k.toNat)) := by
  show (if (mkS l).length ≤ sizeLine then some (D.str (cutS (mkS l) none (some k))) else none) = _
  rw [mkS_length, if_pos (by have := size1000; omega), cutS_to h0]
theorem dSl_txFrom {l : List Nat} {k : Int} (h : l.length ≤ 1000000) (h0 : 0 ≤ k) : dSl (tx l) (some k) none = some (tx (l.drop k.toNat)) := by
  show (if (mkS l).length ≤ sizeLine then some (D.str (cutS (mkS l) (some k) none)) else none) = _
  rw [mkS_length, if_pos (by have := size1000; omega), cutS_from h0]
theorem runF_rt {n k : Nat} {s : Sls → Fl} {ds : List D} {d : D} (h : s (startS n ds) = .rt d) (hk : ds.length = k := by rfl) : runF n k s ds = ok d := by
  unfold runF
  rw [if_pos hk, h]
theorem runF_nx {n k : Nat} {s : Sls → Fl} {ds : List D} {ρ : Sls} (h : s (startS n ds) = .nx ρ) (hk : ds.length = k := by rfl) : runF n k s ds = ok .non := by
  unfold runF
  rw [if_pos hk, h]
theorem runF_exc {n k : Nat} {s : Sls → Fl} {ds : List D} {c : Str} {ρ : Sls} (h : s (startS n ds) = .exc c ρ) (hk : ds.length = k := by rfl) : runF n k s ds = exc c := by
  unfold runF
  rw [if_pos hk, h]
/-! ### joining -/
theorem asSs_tx : ∀ (ls : List (List Nat)), asSs (ls.map tx) = some (ls.map mkS)
  | [] => rfl
  | l :: r => by
    show (asSs (r.map tx)).map (fun bs => mkS l :: bs) = _
    rw [asSs_tx r]
    rfl
theorem join_nil (ls : List (List Nat)) : Txt.join (mkS []) (ls.map mkS) = mkS ls.flatten := by
  have e : Txt.join (mkS []) (ls.map mkS) = mkS (TL.joinL [] ls) := SX.join_S [] ls
  rw [e]
  congr 1
  clear e
  induction ls with
  | nil => rfl
  | cons a r ih => cases r with
    | nil => simp [TL.joinL]
    | cons b q => show a ++ ([] ++ TL.joinL [] (b :: q)) = _; rw [ih]; rfl
theorem dJoin_tx {ls : List (List Nat)} (h : (ls.map List.length).sum ≤ 1000000) : dJoin (tx []) (.lst (ls.map tx)) = some (tx ls.flatten) := by
  show ((asSs (ls.map tx)).bind fun ys => if (ys.map (·.length)).sum + ys.length * (mkS []).length ≤ 16777216 then some (D.str (Txt.join (mkS []) ys)) else none) = _
  rw [asSs_tx]
  show (if ((ls.map mkS).map (·.length)).sum + (ls.map mkS).length * 0 ≤ 16777216 then some (D.str (Txt.join (mkS []) (ls.map mkS))) else none) = _
  have e : (ls.map mkS).map (·.length) = ls.map List.length := by
    rw [List.map_map]
    exact List.map_congr_left fun x _ => mkS_length x
  rw [e, if_pos (by omega), join_nil]
/-! ### loops -/
theorem forL_inv {step : D → Sls → Fl} {R : Nat → Sls → Prop} : ∀ {xs : List D} {i : Nat} {ρ : Sls}, (∀ j x ρ, xs[j]? = some x → R (i + j) ρ → ∃ ρ', (step x ρ = .nx ρ' ∨ step x ρ = .ct ρ') ∧ R (i + j + 1) ρ') → R i ρ → ∃ ρ', forL step xs ρ = .nx ρ' ∧ R (i + xs.length) ρ'
  | [], i, ρ, _, h0 => ⟨ρ, rfl, h0⟩
  | x :: xs, i, ρ, h, h0 => by
    obtain ⟨ρ1, e1, r1⟩ := h 0 x ρ rfl h0
    obtain ⟨ρ2, e2, r2⟩ := forL_inv (step := step) (R := R) (xs := xs) (i := i + 1) (ρ := ρ1) (fun j y ρ hy hr => by
      have := h (j + 1) y ρ (by simpa using hy) (by rw [show i + (j + 1) = i + 1 + j by omega]; exact hr)
      rw [show i + (j + 1) + 1 = i + 1 + j + 1 by omega] at this
      exact this) r1
    refine ⟨ρ2, ?_, by rw [show i + (x :: xs).length = i + 1 + xs.length by simp; omega]; exact r2⟩
    unfold forL
    rcases e1 with e1 | e1 <;> rw [e1] <;> exact e2
/-- the invariant speaks of what is left -/
theorem forL_go {α : Type} {step : D → Sls → Fl} {R : α → Sls → Prop} {f : α → D → α} : ∀ {xs : List D} {a : α} {ρ : Sls}, (∀ x ∈ xs, ∀ a ρ, R a ρ → ∃ ρ', (step x ρ = .nx ρ' ∨ step x ρ = .ct ρ') ∧ R (f a x) ρ') → R a ρ → ∃ ρ', forL step xs ρ = .nx ρ' ∧ R (xs.foldl f a) ρ'
  | [], a, ρ, _, h0 => ⟨ρ, rfl, h0⟩
  | x :: xs, a, ρ, h, h0 => by
    obtain ⟨ρ1, e1, r1⟩ := h x (by simp) a ρ h0
    obtain ⟨ρ2, e2, r2⟩ := forL_go (step := step) (R := R) (f := f) (xs := xs) (fun y hy => h y (by simp [hy])) r1
    refine ⟨ρ2, ?_, r2⟩
    unfold forL
    rcases e1 with e1 | e1 <;> rw [e1] <;> exact e2
theorem forL_all {step : D → Sls → Fl} {R : Sls → Prop} {xs : List D} {ρ : Sls} (h : ∀ x ∈ xs, ∀ ρ, R ρ → ∃ ρ', (step x ρ = .nx ρ' ∨ step x ρ = .ct ρ') ∧ R ρ') (h0 : R ρ) : ∃ ρ', forL step xs ρ = .nx ρ' ∧ R ρ' := by
  obtain ⟨ρ', e, r⟩ := forL_go (α := Unit) (R := fun _ => R) (f := fun _ _ => ()) (a := ()) (fun x hx _ ρ hr => h x hx ρ hr) h0
  exact ⟨ρ', e, r⟩
theorem compL_map {step : D → Res (Option D)} {g : D → Option D} : ∀ {xs : List D}, (∀ x ∈ xs, step x = ok (g x)) → compL step xs = ok (xs.filterMap g)
  | [], _ => rfl
  | x :: xs, h => by
    show ((step x).quiet >>= fun r => compL step xs >>= fun ys => ok (match r with | some y => y :: ys | none => ys)) = _
    rw [h x (by simp), compL_map (xs := xs) (g := g) fun y hy => h y (by simp [hy])]
    simp only [Res.quiet_ok, Res.ok_bind, List.filterMap_cons]
    cases g x <;> rfl
theorem compL_of {α : Type} {step : D → Res (Option D)} {emb : α → D} {g : α → Option D} {as : List α} (h : ∀ a ∈ as, step (emb a) = ok (g a)) : compL step (as.map emb) = ok (as.filterMap g) := by
  induction as with
  | nil => rfl
  | cons x xs ih =>
    show ((step (emb x)).quiet >>= fun r => compL step (xs.map emb) >>= fun ys => ok (match r with | some y => y :: ys | none => ys)) = _
    rw [h x (by simp), ih fun y hy => h y (by simp [hy])]
    simp only [Res.quiet_ok, Res.ok_bind, List.filterMap_cons]
    cases g x <;> rfl
theorem compL_all {α : Type} {step : D → Res (Option D)} {emb : α → D} {g : α → D} {as : List α} (h : ∀ a ∈ as, step (emb a) = ok (some (g a))) : compL step (as.map emb) = ok (as.map g) := by
  rw [compL_of (g := fun a => some (g a)) h]
  congr 1
  induction as with
  | nil => rfl
  | cons x xs ih => rw [List.filterMap_cons]; simp only [List.map_cons]; rw [ih fun y hy => h y (by simp [hy])]
theorem rangeD_map (lo : Int) (n : Nat) : rangeD lo n = (List.range n).map fun i : Nat => D.int (lo + (i : Int)) := rfl
theorem asBs_map {α : Type} (p : α → Bool) : ∀ l : List α, asBs (l.map fun a => D.bl (p a)) = some (l.map p)
  | [] => rfl
  | a :: r => by
    show ((some (p a)).bind fun b => (asBs (r.map fun a => D.bl (p a))).map fun bs => b :: bs) = _
    rw [asBs_map p r]
    rfl
theorem dAll_map {α : Type} (p : α → Bool) (l : List α) : dAll [.lst (l.map fun a => D.bl (p a))] = some (.bl (l.all p)) := by
  show (asBs (l.map fun a => D.bl (p a))).map (fun bs => D.bl (bs.all id)) = _
  rw [asBs_map, Option.map_some, List.all_map]
  rfl
theorem dAny_map {α : Type} (p : α → Bool) (l : List α) : dAny [.lst (l.map fun a => D.bl (p a))] = some (.bl (l.any p)) := by
  show (asBs (l.map fun a => D.bl (p a))).map (fun bs => D.bl (bs.any id)) = _
  rw [asBs_map, Option.map_some, List.any_map]
  rfl
/-! ### pairs of numbers -/
abbrev pt (p : Int × Int) : D := .tup [.int p.1, .int p.2]
def pq (p : Int × Int) : PyData := .tuple [.int p.1, .int p.2]
theorem toPD_pt (p : Int × Int) : toPD (pt p) = some (pq p) := by simp [toPD, toPDs, pq]
/-- can be looked at deeply: n deep at most -/
def Sh (n : Nat) (d : PyData) : Prop := d.canLay0 = true ∧ d.depth ≤ n
theorem Sh.shaped {n : Nat} {d : PyData} (h : Sh n d) (hn : n ≤ 64 := by decide) : SeqAt.shaped d = true := by
  show (d.canLay0 && decide (d.depth ≤ 64)) = true
  rw [h.1, decide_eq_true (Nat.le_trans h.2 hn)]
  rfl
theorem sh_all {n : Nat} : ∀ {ds : List PyData}, (∀ d ∈ ds, Sh n d) → PyData.canLayAll0 ds = true ∧ PyData.depthAll ds ≤ n
  | [], _ => ⟨by simp [PyData.canLayAll0], by simp [PyData.depthAll]⟩
  | d :: ds, h => by
    obtain ⟨a, b⟩ := sh_all (ds := ds) fun x hx => h x (by simp [hx])
    obtain ⟨c, e⟩ := h d (by simp)
    exact ⟨by simp [PyData.canLayAll0, a, c], by simp only [PyData.depthAll]; exact Nat.max_le.mpr ⟨e, b⟩⟩
theorem Sh.tup {n : Nat} {ds : List PyData} (h : ∀ d ∈ ds, Sh n d) : Sh (n + 1) (.tuple ds) := by
  obtain ⟨a, b⟩ := sh_all h
  exact ⟨by simpa [PyData.canLay0] using a, by simpa [PyData.depth] using b⟩
theorem Sh.lst {n : Nat} {ds : List PyData} (h : ∀ d ∈ ds, Sh n d) : Sh (n + 1) (.list ds) := by
  obtain ⟨a, b⟩ := sh_all h
  exact ⟨by simpa [PyData.canLay0] using a, by simpa [PyData.depth] using b⟩
theorem Sh.int {n : Nat} (i : Int) : Sh n (.int i) := ⟨by simp [PyData.canLay0], by simp [PyData.depth]⟩
theorem sh_pq (p : Int × Int) : Sh 1 (pq p) := Sh.tup fun d hd => by
  simp only [List.mem_cons, List.not_mem_nil, or_false] at hd
  rcases hd with e | e <;> rw [e] <;> exact .int _
theorem shaped_pq (p : Int × Int) : SeqAt.shaped (pq p) = true := (sh_pq p).shaped
theorem eqv_pq (p q : Int × Int) : PyData.eqv (pq p) (pq q) = decide (p = q) := by
  obtain ⟨a, b⟩ := p
  obtain ⟨c, d⟩ := q
  simp only [pq, PyData.eqv, PyData.eqvAll, Bool.and_true, Prod.mk.injEq]
  by_cases h1 : a = c <;> by_cases h2 : b = d <;> simp [h1, h2]
theorem dEq_pt (p q : Int × Int) : dEq (pt p) (pt q) = some (.bl (decide (p = q))) := by
  show (deepEq (pt p) (pt q)).map D.bl = _
  unfold deepEq
  rw [toPD_pt, toPD_pt]
  simp only [Option.bind_some, shaped_pq, Bool.and_self, if_true, eqv_pq, Option.map_some]
theorem dNe_pt (p q : Int × Int) : dNe (pt p) (pt q) = some (.bl (!decide (p = q))) := by
  unfold dNe
  rw [dEq_pt]
theorem toPDs_pt : ∀ ps : List (Int × Int), toPDs (ps.map pt) = some (ps.map pq)
  | [] => by simp [toPDs]
  | p :: r => by
    simp only [List.map_cons, toPDs, toPDs_pt r, Option.bind_some, Option.map_some]
    rw [toPD_pt]
    rfl
theorem shaped_pqs (ps : List (Int × Int)) : SeqAt.shaped (.list (ps.map pq)) = true := (Sh.lst (n := 1) fun d hd => by
  obtain ⟨p, _, rfl⟩ := List.mem_map.mp hd
  exact sh_pq p).shaped
theorem dIn_pt (p : Int × Int) (ps : List (Int × Int)) : dIn (pt p) (.lst (ps.map pt)) = some (.bl (decide (p ∈ ps))) := by
  show (inSeq (pt p) (ps.map pt)).map D.bl = _
  unfold inSeq
  rw [toPD_pt, toPDs_pt]
  simp only [Option.bind_some, shaped_pq, shaped_pqs, Bool.and_self, if_true, Option.map_some]
  congr 2
  rw [List.any_map]
  by_cases h : p ∈ ps
  · rw [decide_eq_true h, List.any_eq_true]
    exact ⟨p, h, by simp [eqv_pq]⟩
  · rw [decide_eq_false h, List.any_eq_false]
    intro x hx
    simp only [Function.comp, eqv_pq, decide_eq_true_eq]
    exact fun e => h (e ▸ hx)
end PP

namespace PP
open PySem L2
open Res (ok exc bad)
/-- script many draws seed cell number k -/
noncomputable def b__law_draws : Sls → Fl :=
    (sSeq (sSetO 2 (mLst []))
    (sSeq (sSet 3 (mC (.int 7)))
    (sSeq (sFor (mIt (mSl dSl (mVar 0) mNoPart (mPart (mC (.int 63))))) (tgName 4)
    (sSeq (sSet 5 (mBI dAbs [(mVar 4)]))
    (sSeq (sSet 3 (mOp2 dMod (mBI dInt [(mOp2 dAdd (mOp2 dAdd (mOp2 dMul (mVar 3) (mC (.int 48271))) (mVar 5)) (mC (.int 11)))]) (mC (.int 2147483647))))
    (sIf (mT (mOp2 dGe (mVar 5) (mOp2 dPow (mC (.int 10)) (mC (.int 18))))) (sFor (mRng rng1 [(mC (.int 60))]) (tgName 6)
    (sIf (mT (mOp2 dGt (mVar 5) (mC (.int 0)))) (sSeq (sApp 2 (mOp2 dMod (mBI dInt [(mVar 5)]) (mC (.int 1009))))
    (sSet 5 (mOp2 dDiv (mVar 5) (mC (.int 1009))))) sNx)) (sApp 2 (mOp2 dMod (mOp2 dDiv (mBI dInt [(mOp2 dAdd (mOp2 dMul (mVar 3) (mC (.int 16807))) (mC (.int 5)))]) (mC (.int 3))) (mC (.int 65521))))))))
    (sSeq (sFor (mRng rng1 [(mVar 1)]) (tgName 6)
    (sIf (mT (mOp2 dLt (mBI dLen [(mVarB 2)]) (mVar 1))) (sSeq (sSet 3 (mOp2 dMod (mBI dInt [(mOp2 dAdd (mOp2 dAdd (mOp2 dMul (mVar 3) (mC (.int 69621))) (mVar 6)) (mC (.int 1)))]) (mC (.int 2147483647))))
    (sApp 2 (mOp2 dMod (mOp2 dDiv (mBI dInt [(mVar 3)]) (mC (.int 7))) (mC (.int 65521))))) sNx))
    (sRet (mSl dSl (mVarB 2) mNoPart (mPart (mVar 1))))))))
noncomputable def F__law_draws : List D → Res D := runF 7 2 b__law_draws
/-- draws high wide found row draw k -/
noncomputable def b__law_rows : Sls → Fl :=
    (sSeq (sSetO 3 (mLst []))
    (sSeq (sFor (mRng rng1 [(mVar 1)]) (tgName 4)
    (sSeq (sSet 5 (mBI dInt [(mOp2 dIx (mVar 0) (mOp2 dAdd (mC (.int 1)) (mOp2 dMod (mVar 4) (mOp2 dSub (mBI dLen [(mVar 0)]) (mC (.int 1))))))]))
    (sApp 3 (mM1 dJoin (mC (.str "")) (mLc (mRng rng1 [(mVar 2)]) [6] (tgName 6) mYes (mIf (mT (mOp2 dLt (mOp2 dMod (mOp2 dDiv (mBI dInt [(mOp2 dAdd (mOp2 dAdd (mOp2 dMul (mVar 5) (mOp2 dAdd (mVar 6) (mC (.int 3)))) (mOp2 dMul (mVar 6) (mC (.int 37)))) (mOp2 dMul (mVar 4) (mC (.int 11))))]) (mC (.int 7))) (mC (.int 8))) (mOp2 dMod (mBI dInt [(mOp2 dIx (mVar 0) (mC (.int 0)))]) (mC (.int 4))))) (mC (.str "#")) (mC (.str "."))))))))
    (sRet (mBI dTuple [(mOp2 dAdd (mLst [(mOp2 dAdd (mC (.str ".")) (mSl dSl (mOp2 dIx (mVarB 3) (mC (.int 0))) (mPart (mC (.int 1))) mNoPart))]) (mSl dSl (mVarB 3) (mPart (mC (.int 1))) mNoPart))]))))
noncomputable def F__law_rows : List D → Res D := runF 7 3 b__law_rows
/-- rows found row k -/
noncomputable def b__law_cells : Sls → Fl :=
    (sSeq (sSet 1 (mLst []))
    (sSeq (sFor (mRng rng1 [(mBI dLen [(mVar 0)])]) (tgName 2)
    (sSet 1 (mOp2 dAdd (mVar 1) (mLc (mRng rng1 [(mBI dLen [(mOp2 dIx (mVar 0) (mC (.int 0)))])]) [3] (tgName 3) (mT (mOp2 dEq (mOp2 dIx (mOp2 dIx (mVar 0) (mVar 2)) (mVar 3)) (mC (.str ".")))) (mTup [(mVar 2), (mVar 3)])))))
    (sRet (mBI dTuple [(mVar 1)]))))
noncomputable def F__law_cells : List D → Res D := runF 4 1 b__law_cells
/-- rows cell found step there -/
noncomputable def b__law_near : Sls → Fl :=
    (sSeq (sSetO 2 (mLst []))
    (sSeq (sFor (mIt (mLst [(mTup [(mOp1 dNeg (mC (.int 1))), (mC (.int 0))]), (mTup [(mC (.int 0)), (mOp1 dNeg (mC (.int 1)))]), (mTup [(mC (.int 0)), (mC (.int 1))]), (mTup [(mC (.int 1)), (mC (.int 0))])])) (tgName 3)
    (sSeq (sSet 4 (mTup [(mOp2 dAdd (mOp2 dIx (mVar 1) (mC (.int 0))) (mOp2 dIx (mVar 3) (mC (.int 0)))), (mOp2 dAdd (mOp2 dIx (mVar 1) (mC (.int 1))) (mOp2 dIx (mVar 3) (mC (.int 1))))]))
    (sIf (mAnd (mT (mChain dLe dLt (mC (.int 0)) (mOp2 dIx (mVar 4) (mC (.int 0))) (mBI dLen [(mVar 0)]))) (mAnd (mT (mChain dLe dLt (mC (.int 0)) (mOp2 dIx (mVar 4) (mC (.int 1))) (mBI dLen [(mOp2 dIx (mVar 0) (mC (.int 0)))]))) (mT (mOp2 dEq (mOp2 dIx (mOp2 dIx (mVar 0) (mOp2 dIx (mVar 4) (mC (.int 0)))) (mOp2 dIx (mVar 4) (mC (.int 1)))) (mC (.str ".")))))) (sApp 2 (mVar 4)) sNx)))
    (sFrz 2 (sRet (mVar 2)))))
noncomputable def F__law_near : List D → Res D := runF 5 2 b__law_near
theorem dMul_r {i j : Int} (h1 : -(2 ^ 64) < j) (h2 : j < 2 ^ 64) : dMul (.int i) (.int j) = some (.int (i * j)) := by
  show (if mulOk i j = true then some (D.int (i * j)) else none) = _
  rw [if_pos]
  exact decide_eq_true (.inr ⟨h1, h2⟩)
theorem dMul_l {i j : Int} (h1 : -(2 ^ 64) < i) (h2 : i < 2 ^ 64) : dMul (.int i) (.int j) = some (.int (i * j)) := by
  show (if mulOk i j = true then some (D.int (i * j)) else none) = _
  rw [if_pos]
  exact decide_eq_true (.inl ⟨h1, h2⟩)
theorem dMod_i {i j : Int} (h : 0 < j) : dMod (.int i) (.int j) = some (.int (i % j)) := if_pos h
theorem dDiv_i {i j : Int} (h : 0 < j) (h2 : j < 1073741824) : dDiv (.int i) (.int j) = some (.int (i / j)) := if_pos ⟨h, h2⟩
@[simp] theorem dAdd_i (i j : Int) : dAdd (.int i) (.int j) = some (.int (i + j)) := id rfl
@[simp] theorem dSub_i (i j : Int) : dSub (.int i) (.int j) = some (.int (i - j)) := id rfl
@[simp] theorem dLt_i (i j : Int) : dLt (.int i) (.int j) = some (.bl (decide (i < j))) := id rfl
@[simp] theorem dLe_i (i j : Int) : dLe (.int i) (.int j) = some (.bl (decide (i ≤ j))) := id rfl
@[simp] theorem dGt_i (i j : Int) : dGt (.int i) (.int j) = some (.bl (decide (j < i))) := id rfl
@[simp] theorem dGe_i (i j : Int) : dGe (.int i) (.int j) = some (.bl (decide (j ≤ i))) := id rfl
@[simp] theorem dEq_i (i j : Int) : dEq (.int i) (.int j) = some (.bl (decide (i = j))) := id rfl
@[simp] theorem dNe_i (i j : Int) : dNe (.int i) (.int j) = some (.bl (!decide (i = j))) := id rfl
@[simp] theorem dInt_i (i : Int) : dInt [.int i] = some (.int i) := id rfl
@[simp] theorem dAbs_i (i : Int) : dAbs [.int i] = some (.int (if i < 0 then -i else i)) := id rfl
@[simp] theorem dNeg_i (i : Int) : dNeg (.int i) = some (.int (-i)) := id rfl
@[simp] theorem dLen_l (xs : List D) : dLen [.lst xs] = some (.int xs.length) := id rfl
@[simp] theorem dLen_t (xs : List D) : dLen [.tup xs] = some (.int xs.length) := id rfl
@[simp] theorem dLen_k (xs : List D) : dLen [.kl xs] = some (.int xs.length) := id rfl
@[simp] theorem asB_b (b : Bool) : asB (.bl b) = some b := id rfl
@[simp] theorem asI_i (i : Int) : asI (.int i) = some i := id rfl
/-- numbers that were drawn -/
def Drawn (ds : List Int) : Prop := ∀ d ∈ ds, 0 ≤ d ∧ d < 65521
theorem Drawn.snoc {ds : List Int} {d : Int} (h : Drawn ds) (h1 : 0 ≤ d) (h2 : d < 65521) : Drawn (ds ++ [d]) := fun x hx => by
  rcases List.mem_append.mp hx with h3 | h3
  · exact h x h3
  · rw [List.mem_singleton.mp h3]; exact ⟨h1, h2⟩
def dst (sc many : D) (ds : List Int) (seed : Int) (s4 s5 s6 : Sl) : Sls := [.fz sc, .fz many, .ow (.lst (ds.map .int)), .fz (.int seed), s4, s5, s6]
theorem app_go {i : Nat} {f : Sls → Res D} {ρ : Sls} {ds : List Int} {d : Int} (h : ρ[i]? = some (.ow (.lst (ds.map .int)))) (hf : f ρ = ok (.int d)) (hl : ds.length ≤ 1000000) : sApp i f ρ = .nx (ρ.set i (.ow (.lst ((ds ++ [d]).map .int)))) := by
  unfold sApp
  rw [h]
  simp only [hf, thenF_ok, List.length_map, List.map_append, List.map_cons, List.map_nil]
  rw [if_pos (by have := size1000; omega)]
theorem draws_inner {sc many : D} {s4 : Sl} {seed : Int} (ds : List Int) (num : Int) (s6 : Sl) (h0 : 0 ≤ num) (hd : Drawn ds) (hl : ds.length ≤ 10000) :
    ∃ ds' num' s6', forL (fun x ρ => thenF (tgName 6 x ρ).quiet ρ (sIf (mT (mOp2 dGt (mVar 5) (mC (.int 0)))) (sSeq (sApp 2 (mOp2 dMod (mBI dInt [(mVar 5)]) (mC (.int 1009))))
    (sSet 5 (mOp2 dDiv (mVar 5) (mC (.int 1009))))) sNx)) (rangeD 0 60) (dst sc many ds seed s4 (.fz (.int num)) s6) = .nx (dst sc many ds' seed s4 (.fz (.int num')) s6') ∧ Drawn ds' ∧ ds'.length ≤ ds.length + 60 ∧ 0 ≤ num' := by
  have key := forL_inv (xs := rangeD 0 60) (i := 0) (ρ := dst sc many ds seed s4 (.fz (.int num)) s6) (R := fun i ρ => ∃ ds' num' s6', ρ = dst sc many ds' seed s4 (.fz (.int num')) s6' ∧ Drawn ds' ∧ ds'.length ≤ ds.length + i ∧ 0 ≤ num')
    (step := fun x ρ => thenF (tgName 6 x ρ).quiet ρ (sIf (mT (mOp2 dGt (mVar 5) (mC (.int 0)))) (sSeq (sApp 2 (mOp2 dMod (mBI dInt [(mVar 5)]) (mC (.int 1009))))
    (sSet 5 (mOp2 dDiv (mVar 5) (mC (.int 1009))))) sNx)) (fun j x ρ hx ⟨ds', num', s6', e, h1, h2, h3⟩ => ?_) ⟨ds, num, s6, rfl, hd, by omega, h0⟩
  · obtain ⟨ρ', e, ds', num', s6', e2, r1, r2, r3⟩ := key
    exact ⟨ds', num', s6', by rw [e, e2], r1, by rw [show (rangeD 0 60).length = 60 by simp [rangeD]] at r2; omega, r3⟩
  · subst e
    have hj : j < 60 := by
      have := (List.getElem?_eq_some_iff.mp hx).1
      simpa [rangeD] using this
    by_cases hp : 0 < num'
    · refine ⟨dst sc many (ds' ++ [num' % 1009]) seed s4 (.fz (.int (num' / 1009))) (.fz x), .inl ?_, _, _, _, rfl, h1.snoc (by omega) (by omega), by simp; omega, by omega⟩
      have happ : sApp 2 (mOp2 dMod (mBI dInt [mVar 5]) (mC (.int 1009))) (dst sc many ds' seed s4 (.fz (.int num')) (.fz x)) = .nx (dst sc many (ds' ++ [num' % 1009]) seed s4 (.fz (.int num')) (.fz x)) := by
        rw [app_go (ds := ds') (d := num' % 1009) rfl (by simp [mOp2, mBI, mArgs, mVar, dst, mC, dMod_i]) (by omega)]
        rfl
      simp only [tgName, Res.quiet_ok, thenF_ok]
      show sIf _ _ _ (dst sc many ds' seed s4 (.fz (.int num')) (.fz x)) = _
      have ht : mT (mOp2 dGt (mVar 5) (mC (.int 0))) (dst sc many ds' seed s4 (.fz (.int num')) (.fz x)) = ok true := by
        simp [mT, mOp2, mVar, dst, mC, hp]
      simp only [sIf, ht, thenF_ok, if_true, sSeq, happ]
      simp [sSet, mOp2, mVar, mC, dst, dDiv_i]
    · refine ⟨dst sc many ds' seed s4 (.fz (.int num')) (.fz x), .inl ?_, _, _, _, rfl, h1, by omega, h3⟩
      simp only [tgName, Res.quiet_ok, thenF_ok]
      show sIf _ _ _ (dst sc many ds' seed s4 (.fz (.int num')) (.fz x)) = _
      have ht : mT (mOp2 dGt (mVar 5) (mC (.int 0))) (dst sc many ds' seed s4 (.fz (.int num')) (.fz x)) = ok false := by
        simp [mT, mOp2, mVar, dst, mC, hp]
      simp only [sIf, ht, thenF_ok, if_false, sNx, Bool.false_eq_true]
/-- the first walk's step -/
theorem draws_step {sc many : D} (ds : List Int) (seed c : Int) (s4 s5 s6 : Sl) (hd : Drawn ds) (hl : ds.length ≤ 10000) (h0 : 0 ≤ seed) :
    ∃ ds' seed' s4' s5' s6', thenF (tgName 4 (.int c) (dst sc many ds seed s4 s5 s6)).quiet (dst sc many ds seed s4 s5 s6) (sSeq (sSet 5 (mBI dAbs [(mVar 4)]))
    (sSeq (sSet 3 (mOp2 dMod (mBI dInt [(mOp2 dAdd (mOp2 dAdd (mOp2 dMul (mVar 3) (mC (.int 48271))) (mVar 5)) (mC (.int 11)))]) (mC (.int 2147483647))))
    (sIf (mT (mOp2 dGe (mVar 5) (mOp2 dPow (mC (.int 10)) (mC (.int 18))))) (sFor (mRng rng1 [(mC (.int 60))]) (tgName 6)
    (sIf (mT (mOp2 dGt (mVar 5) (mC (.int 0)))) (sSeq (sApp 2 (mOp2 dMod (mBI dInt [(mVar 5)]) (mC (.int 1009))))
    (sSet 5 (mOp2 dDiv (mVar 5) (mC (.int 1009))))) sNx)) (sApp 2 (mOp2 dMod (mOp2 dDiv (mBI dInt [(mOp2 dAdd (mOp2 dMul (mVar 3) (mC (.int 16807))) (mC (.int 5)))]) (mC (.int 3))) (mC (.int 65521))))))) = .nx (dst sc many ds' seed' s4' s5' s6') ∧ Drawn ds' ∧ ds'.length ≤ ds.length + 60 ∧ 0 ≤ seed' := by
  have hn : (0 : Int) ≤ (if c < 0 then -c else c) := by split <;> omega
  generalize hN : (if c < 0 then -c else c) = num at hn
  have hs : (0 : Int) ≤ (seed * 48271 + num + 11) % 2147483647 := by omega
  generalize hS : (seed * 48271 + num + 11) % 2147483647 = seed1 at hs
  have e1 : sSet 5 (mBI dAbs [(mVar 4)]) (dst sc many ds seed (.fz (.int c)) s5 s6) = .nx (dst sc many ds seed (.fz (.int c)) (.fz (.int num)) s6) := by
    simp [sSet, mBI, mArgs, mVar, dst, hN]
  have e2 : sSet 3 (mOp2 dMod (mBI dInt [(mOp2 dAdd (mOp2 dAdd (mOp2 dMul (mVar 3) (mC (.int 48271))) (mVar 5)) (mC (.int 11)))]) (mC (.int 2147483647))) (dst sc many ds seed (.fz (.int c)) (.fz (.int num)) s6) = .nx (dst sc many ds seed1 (.fz (.int c)) (.fz (.int num)) s6) := by
    simp [sSet, mBI, mArgs, mVar, dst, mOp2, mC, dMul_r, dMod_i, hS]
  have e0 : tgName 4 (.int c) (dst sc many ds seed s4 s5 s6) = ok (dst sc many ds seed (.fz (.int c)) s5 s6) := rfl
  rw [e0]
  simp only [Res.quiet_ok, thenF_ok, sSeq, e1, e2]
  have hp : dPow (.int 10) (.int 18) = some (.int (10 ^ 18)) := by
    show (if (0 : Int) ≤ 18 ∧ (18 : Int) ≤ 1000 ∧ (10 : Int).natAbs < 2 ^ 64 then some (D.int (10 ^ (18 : Int).toNat)) else none) = _
    rw [if_pos (by decide)]
    rfl
  by_cases hg : (10 : Int) ^ 18 ≤ num
  · have ht : mT (mOp2 dGe (mVar 5) (mOp2 dPow (mC (.int 10)) (mC (.int 18)))) (dst sc many ds seed1 (.fz (.int c)) (.fz (.int num)) s6) = ok true := by
      have hg2 : (1000000000000000000 : Int) ≤ num := hg
      simp [mT, mOp2, mVar, dst, mC, hp, hg2]
    simp only [sIf, ht, thenF_ok, if_true]
    have hr : mRng rng1 [(mC (.int 60))] (dst sc many ds seed1 (.fz (.int c)) (.fz (.int num)) s6) = ok (rangeD 0 60) := rfl
    obtain ⟨ds', num', s6', e, r1, r2, r3⟩ := draws_inner (sc := sc) (many := many) (s4 := .fz (.int c)) (seed := seed1) ds num s6 hn hd hl
    refine ⟨ds', seed1, .fz (.int c), .fz (.int num'), s6', ?_, r1, r2, hs⟩
    simp only [sFor, hr, thenF_ok]
    exact e
  · have ht : mT (mOp2 dGe (mVar 5) (mOp2 dPow (mC (.int 10)) (mC (.int 18)))) (dst sc many ds seed1 (.fz (.int c)) (.fz (.int num)) s6) = ok false := by
      have hg2 : ¬ (1000000000000000000 : Int) ≤ num := hg
      simp [mT, mOp2, mVar, dst, mC, hp, hg2]
    simp only [sIf, ht, thenF_ok, if_false, Bool.false_eq_true]
    refine ⟨ds ++ [(seed1 * 16807 + 5) / 3 % 65521], seed1, _, _, _, (app_go (ds := ds) (d := (seed1 * 16807 + 5) / 3 % 65521) rfl (by simp [mOp2, mBI, mArgs, mVar, dst, mC, dMul_r, dMod_i, dDiv_i]) (by omega)).trans rfl, hd.snoc (by omega) (by omega), by simp, hs⟩
/-- the second walk's step -/
theorem draws_step2 {sc : D} (many : Nat) (ds : List Int) (seed : Int) (k : Nat) (s4 s5 s6 : Sl) (hd : Drawn ds) (hl : ds.length ≤ 10000) (h0 : 0 ≤ seed) :
    ∃ ds' seed' s6', thenF (tgName 6 (.int (0 + (k : Int))) (dst sc (.int many) ds seed s4 s5 s6)).quiet (dst sc (.int many) ds seed s4 s5 s6) (sIf (mT (mOp2 dLt (mBI dLen [(mVarB 2)]) (mVar 1))) (sSeq (sSet 3 (mOp2 dMod (mBI dInt [(mOp2 dAdd (mOp2 dAdd (mOp2 dMul (mVar 3) (mC (.int 69621))) (mVar 6)) (mC (.int 1)))]) (mC (.int 2147483647))))
    (sApp 2 (mOp2 dMod (mOp2 dDiv (mBI dInt [(mVar 3)]) (mC (.int 7))) (mC (.int 65521))))) sNx) = .nx (dst sc (.int many) ds' seed' s4 s5 s6') ∧ Drawn ds' ∧ ds'.length = (if ds.length < many then ds.length + 1 else ds.length) ∧ 0 ≤ seed' := by
  have e0 : tgName 6 (.int (0 + (k : Int))) (dst sc (.int many) ds seed s4 s5 s6) = ok (dst sc (.int many) ds seed s4 s5 (.fz (.int (0 + (k : Int))))) := rfl
  rw [e0]
  simp only [Res.quiet_ok, thenF_ok]
  by_cases hm : ds.length < many
  · have ht : mT (mOp2 dLt (mBI dLen [(mVarB 2)]) (mVar 1)) (dst sc (.int many) ds seed s4 s5 (.fz (.int (0 + (k : Int))))) = ok true := by
      simp [mT, mOp2, mBI, mArgs, mVarB, mVar, dst, hm]
    have hs : (0 : Int) ≤ (seed * 69621 + (0 + (k : Int)) + 1) % 2147483647 := by omega
    generalize hS : (seed * 69621 + (0 + (k : Int)) + 1) % 2147483647 = seed1 at hs
    have e2 : sSet 3 (mOp2 dMod (mBI dInt [(mOp2 dAdd (mOp2 dAdd (mOp2 dMul (mVar 3) (mC (.int 69621))) (mVar 6)) (mC (.int 1)))]) (mC (.int 2147483647))) (dst sc (.int many) ds seed s4 s5 (.fz (.int (0 + (k : Int))))) = .nx (dst sc (.int many) ds seed1 s4 s5 (.fz (.int (0 + (k : Int))))) := by
      rw [← hS]
      simp [sSet, mBI, mArgs, mVar, dst, mOp2, mC, dMul_r, dMod_i]
    simp only [sIf, ht, thenF_ok, if_true, sSeq, e2]
    refine ⟨ds ++ [seed1 / 7 % 65521], seed1, _, (app_go (ds := ds) (d := seed1 / 7 % 65521) rfl (by simp [mOp2, mBI, mArgs, mVar, dst, mC, dMod_i, dDiv_i]) (by omega)).trans rfl, hd.snoc (by omega) (by omega), by simp [hm], hs⟩
  · have ht : mT (mOp2 dLt (mBI dLen [(mVarB 2)]) (mVar 1)) (dst sc (.int many) ds seed s4 s5 (.fz (.int (0 + (k : Int))))) = ok false := by
      simp [mT, mOp2, mBI, mArgs, mVarB, mVar, dst, hm]
    simp only [sIf, ht, thenF_ok, if_false, Bool.false_eq_true, sNx]
    exact ⟨ds, seed, _, rfl, hd, by rw [if_neg hm], h0⟩
theorem draws_ok (ns : List Int) (many : Nat) (hm : many ≤ 1000) : ∃ ds : List Int, F__law_draws [.kl (ns.map .int), .int many] = ok (.lst (ds.map .int)) ∧ ds.length = many ∧ Drawn ds := by
  let sc : D := .kl (ns.map .int)
  have e1 : sSetO 2 (mLst []) (startS 7 [sc, .int many]) = .nx [.fz sc, .fz (.int many), .ow (.lst []), .no, .no, .no, .no] := rfl
  have e2 : sSet 3 (mC (.int 7)) [.fz sc, .fz (.int many), .ow (.lst []), .no, .no, .no, .no] = .nx (dst sc (.int many) [] 7 .no .no .no) := rfl
  have ei : mIt (mSl dSl (mVar 0) mNoPart (mPart (mC (.int 63)))) (dst sc (.int many) [] 7 .no .no .no) = ok ((ns.take 63).map .int) := by
    have : dSl sc none (some 63) = some (.lst ((ns.take 63).map .int)) := by
      show some (D.lst (cutD (ns.map .int) none (some 63))) = _
      rw [cutD_to (by decide), ← List.map_take]
      rfl
    simp [mIt, mSl, mVar, dst, mNoPart, mPart, mC, this, items]
  obtain ⟨ρ1, f1, ds1, seed1, s4, s5, s6, r1, r2, r3, r4⟩ := forL_inv (xs := (ns.take 63).map .int) (i := 0) (ρ := dst sc (.int many) [] 7 .no .no .no)
    (step := fun x ρ => thenF (tgName 4 x ρ).quiet ρ (sSeq (sSet 5 (mBI dAbs [(mVar 4)]))
    (sSeq (sSet 3 (mOp2 dMod (mBI dInt [(mOp2 dAdd (mOp2 dAdd (mOp2 dMul (mVar 3) (mC (.int 48271))) (mVar 5)) (mC (.int 11)))]) (mC (.int 2147483647))))
    (sIf (mT (mOp2 dGe (mVar 5) (mOp2 dPow (mC (.int 10)) (mC (.int 18))))) (sFor (mRng rng1 [(mC (.int 60))]) (tgName 6)
    (sIf (mT (mOp2 dGt (mVar 5) (mC (.int 0)))) (sSeq (sApp 2 (mOp2 dMod (mBI dInt [(mVar 5)]) (mC (.int 1009))))
    (sSet 5 (mOp2 dDiv (mVar 5) (mC (.int 1009))))) sNx)) (sApp 2 (mOp2 dMod (mOp2 dDiv (mBI dInt [(mOp2 dAdd (mOp2 dMul (mVar 3) (mC (.int 16807))) (mC (.int 5)))]) (mC (.int 3))) (mC (.int 65521))))))))
    (R := fun i ρ => ∃ ds seed s4 s5 s6, ρ = dst sc (.int many) ds seed s4 s5 s6 ∧ Drawn ds ∧ ds.length ≤ 60 * i ∧ 0 ≤ seed) (fun j x ρ hx ⟨ds, seed, s4, s5, s6, e, h1, h2, h3⟩ => by
      have hj : j < 63 := by
        have := (List.getElem?_eq_some_iff.mp hx).1
        simp at this
        omega
      rw [List.getElem?_map] at hx
      obtain ⟨c, hc, rfl⟩ := Option.map_eq_some_iff.mp hx
      subst e
      obtain ⟨ds', seed', s4', s5', s6', q, q1, q2, q3⟩ := draws_step (sc := sc) (many := .int many) ds seed c s4 s5 s6 h1 (by omega) h3
      exact ⟨_, .inl q, ds', seed', s4', s5', s6', rfl, q1, by omega, q3⟩) ⟨[], 7, .no, .no, .no, rfl, fun d h => by simp at h, by simp, by decide⟩
  have hl : ds1.length ≤ 60 * 63 := by
    have : ((ns.take 63).map D.int).length ≤ 63 := by simp; omega
    omega
  have er : mRng rng1 [(mVar 1)] (dst sc (.int many) ds1 seed1 s4 s5 s6) = ok (rangeD 0 many) := by
    have : rng1 [.int (many : Int)] = some (rangeD 0 many) := by
      show (if (many : Int) ≤ 1000000 ∧ -1000000 ≤ (many : Int) then some (rangeD 0 (many : Int).toNat) else none) = _
      rw [if_pos (by omega)]
      rfl
    simp [mRng, mArgs, mVar, dst, this]
  obtain ⟨ρ2, f2, ds2, seed2, t6, w1, w2, w3, w4, w5⟩ := forL_inv (xs := rangeD 0 many) (i := 0) (ρ := dst sc (.int many) ds1 seed1 s4 s5 s6)
    (step := fun x ρ => thenF (tgName 6 x ρ).quiet ρ (sIf (mT (mOp2 dLt (mBI dLen [(mVarB 2)]) (mVar 1))) (sSeq (sSet 3 (mOp2 dMod (mBI dInt [(mOp2 dAdd (mOp2 dAdd (mOp2 dMul (mVar 3) (mC (.int 69621))) (mVar 6)) (mC (.int 1)))]) (mC (.int 2147483647))))
    (sApp 2 (mOp2 dMod (mOp2 dDiv (mBI dInt [(mVar 3)]) (mC (.int 7))) (mC (.int 65521))))) sNx))
    (R := fun i ρ => ∃ ds seed s6, ρ = dst sc (.int many) ds seed s4 s5 s6 ∧ Drawn ds ∧ (i ≤ ds.length ∨ many ≤ ds.length) ∧ ds.length ≤ max ds1.length many ∧ 0 ≤ seed) (fun j x ρ hx ⟨ds, seed, s6, e, h1, h2, h3, h4⟩ => by
      rw [rangeD_map, List.getElem?_map] at hx
      obtain ⟨c, hc, rfl⟩ := Option.map_eq_some_iff.mp hx
      subst e
      obtain ⟨ds', seed', s6', q, q1, q2, q3⟩ := draws_step2 (sc := sc) many ds seed c s4 s5 s6 h1 (by have := Nat.max_le.mpr ⟨(by omega : ds1.length ≤ 10000), (by omega : many ≤ 10000)⟩; omega) h4
      refine ⟨_, .inl q, ds', seed', s6', rfl, q1, ?_, ?_, q3⟩
      · split at q2 <;> omega
      · have a1 := Nat.le_max_right ds1.length many
        split at q2 <;> omega) ⟨ds1, seed1, s6, rfl, r2, .inl (Nat.zero_le _), Nat.le_max_left _ _, r4⟩
  have hlen : many ≤ ds2.length := by
    have : (rangeD 0 many).length = many := by simp [rangeD]
    rw [this] at w3
    omega
  refine ⟨ds2.take many, ?_, by simp; omega, fun d hd => w2 d (List.mem_of_mem_take hd)⟩
  refine runF_rt ?_
  have eb : b__law_draws (startS 7 [sc, .int many]) = .rt (.lst ((ds2.take many).map .int)) := by
    unfold b__law_draws
    simp only [sSeq, e1, e2, sFor, ei, thenF_ok, f1, r1, er, f2, w1]
    have : dSl (.lst (ds2.map .int)) none (some (many : Int)) = some (.lst ((ds2.take many).map .int)) := by
      show some (D.lst (cutD (ds2.map .int) none (some (many : Int)))) = _
      rw [cutD_to (by omega), ← List.map_take]
      rfl
    simp [sRet, mSl, mVarB, mVar, dst, mNoPart, mPart, this]
  exact eb
end PP

namespace PP
open PySem L2
open Res (ok exc bad)
section
variable {ρ : Sls} {f g : Sls → Res D} {x y : Int}
theorem op2_ev {h : D → D → Option D} {a b c : D} (w1 : f ρ = ok a) (w2 : g ρ = ok b) (e : h a b = some c) : mOp2 h f g ρ = ok c := by
  unfold mOp2
  rw [w1, Res.ok_bind, w2, Res.ok_bind, e, ofO_some]
theorem op1_ev {h : D → Option D} {a c : D} (w1 : f ρ = ok a) (e : h a = some c) : mOp1 h f ρ = ok c := by
  unfold mOp1
  rw [w1, Res.ok_bind, e, ofO_some]
theorem args0 : mArgs [] ρ = ok [] := rfl
theorem args_ev {fs : List (Sls → Res D)} {a : D} {as : List D} (w1 : f ρ = ok a) (w2 : mArgs fs ρ = ok as) : mArgs (f :: fs) ρ = ok (a :: as) := by
  unfold mArgs
  rw [w1, Res.ok_bind, w2, Res.ok_bind]
theorem bi_ev {h : List D → Option D} {fs : List (Sls → Res D)} {as : List D} {c : D} (w1 : mArgs fs ρ = ok as) (e : h as = some c) : mBI h fs ρ = ok c := by
  unfold mBI
  rw [w1, Res.ok_bind, e, ofO_some]
theorem bi1 {h : List D → Option D} {a c : D} (w1 : f ρ = ok a) (e : h [a] = some c) : mBI h [f] ρ = ok c := bi_ev (args_ev w1 args0) e
theorem call_ev {F : List D → Res D} {fs : List (Sls → Res D)} {as : List D} {r : Res D} (w1 : mArgs fs ρ = ok as) (e : F as = r) : mCall F fs ρ = r := by
  unfold mCall
  rw [w1, Res.ok_bind, e]
theorem make_ev {F : List D → Res D} {fs : List (Sls → Res D)} {as : List D} {c : D} (w1 : mArgs fs ρ = ok as) (e : F as = ok c) : mMake F fs ρ = ok c := by
  unfold mMake
  rw [w1, Res.ok_bind, e]
  rfl
theorem tup_ev {fs : List (Sls → Res D)} {as : List D} (w1 : mArgs fs ρ = ok as) : mTup fs ρ = ok (.tup as) := by
  unfold mTup
  rw [w1, Res.ok_bind]
theorem lst_ev {fs : List (Sls → Res D)} {as : List D} (w1 : mArgs fs ρ = ok as) : mLst fs ρ = ok (.lst as) := by
  unfold mLst
  rw [w1, Res.ok_bind]
theorem i_add (w1 : f ρ = ok (.int x)) (w2 : g ρ = ok (.int y)) : mOp2 dAdd f g ρ = ok (.int (x + y)) := op2_ev w1 w2 (dAdd_i x y)
theorem i_sub (w1 : f ρ = ok (.int x)) (w2 : g ρ = ok (.int y)) : mOp2 dSub f g ρ = ok (.int (x - y)) := op2_ev w1 w2 (dSub_i x y)
theorem two64 : (2 : Int) ^ 64 = 18446744073709551616 := by decide +kernel
theorem dMul_sl {i j : Int} (h1 : -1000000000 < i) (h2 : i < 1000000000) : dMul (.int i) (.int j) = some (.int (i * j)) := dMul_l (by rw [two64]; omega) (by rw [two64]; omega)
theorem dMul_sr {i j : Int} (h1 : -1000000000 < j) (h2 : j < 1000000000) : dMul (.int i) (.int j) = some (.int (i * j)) := dMul_r (by rw [two64]; omega) (by rw [two64]; omega)
theorem i_mulR (w1 : f ρ = ok (.int x)) (w2 : g ρ = ok (.int y)) (h1 : -1000000000 < y := by omega) (h2 : y < 1000000000 := by omega) : mOp2 dMul f g ρ = ok (.int (x * y)) := op2_ev w1 w2 (dMul_sr h1 h2)
theorem i_mulL (w1 : f ρ = ok (.int x)) (w2 : g ρ = ok (.int y)) (h1 : -1000000000 < x := by omega) (h2 : x < 1000000000 := by omega) : mOp2 dMul f g ρ = ok (.int (x * y)) := op2_ev w1 w2 (dMul_sl h1 h2)
theorem i_mod (w1 : f ρ = ok (.int x)) (w2 : g ρ = ok (.int y)) (h1 : 0 < y := by omega) : mOp2 dMod f g ρ = ok (.int (x % y)) := op2_ev w1 w2 (dMod_i h1)
theorem i_div (w1 : f ρ = ok (.int x)) (w2 : g ρ = ok (.int y)) (h1 : 0 < y := by omega) (h2 : y < 1073741824 := by omega) : mOp2 dDiv f g ρ = ok (.int (x / y)) := op2_ev w1 w2 (dDiv_i h1 h2)
theorem i_int (w1 : f ρ = ok (.int x)) : mBI dInt [f] ρ = ok (.int x) := bi1 w1 (dInt_i x)
theorem i_neg (w1 : f ρ = ok (.int x)) : mOp1 dNeg f ρ = ok (.int (-x)) := op1_ev w1 (dNeg_i x)
theorem i_lenL {l : List D} (w1 : f ρ = ok (.lst l)) : mBI dLen [f] ρ = ok (.int l.length) := bi1 w1 (dLen_l l)
theorem i_lenT {l : List D} (w1 : f ρ = ok (.tup l)) : mBI dLen [f] ρ = ok (.int l.length) := bi1 w1 (dLen_t l)
theorem i_lenS {l : List Nat} (w1 : f ρ = ok (tx l)) (h : l.length ≤ 1000000 := by omega) : mBI dLen [f] ρ = ok (.int l.length) := bi1 w1 (dLen_tx h)
theorem t_ev {b : Bool} (w : f ρ = ok (.bl b)) : mT f ρ = ok b := by
  unfold mT
  rw [w, Res.ok_bind, asB_b, ofO_some]
theorem t_lt (w1 : f ρ = ok (.int x)) (w2 : g ρ = ok (.int y)) : mT (mOp2 dLt f g) ρ = ok (decide (x < y)) := t_ev (op2_ev w1 w2 (dLt_i x y))
theorem t_le (w1 : f ρ = ok (.int x)) (w2 : g ρ = ok (.int y)) : mT (mOp2 dLe f g) ρ = ok (decide (x ≤ y)) := t_ev (op2_ev w1 w2 (dLe_i x y))
theorem t_gt (w1 : f ρ = ok (.int x)) (w2 : g ρ = ok (.int y)) : mT (mOp2 dGt f g) ρ = ok (decide (y < x)) := t_ev (op2_ev w1 w2 (dGt_i x y))
theorem t_ge (w1 : f ρ = ok (.int x)) (w2 : g ρ = ok (.int y)) : mT (mOp2 dGe f g) ρ = ok (decide (y ≤ x)) := t_ev (op2_ev w1 w2 (dGe_i x y))
theorem t_eqI (w1 : f ρ = ok (.int x)) (w2 : g ρ = ok (.int y)) : mT (mOp2 dEq f g) ρ = ok (decide (x = y)) := t_ev (op2_ev w1 w2 (dEq_i x y))
theorem t_neI (w1 : f ρ = ok (.int x)) (w2 : g ρ = ok (.int y)) : mT (mOp2 dNe f g) ρ = ok (!decide (x = y)) := t_ev (op2_ev w1 w2 (dNe_i x y))
theorem t_eqS {a b : List Nat} (w1 : f ρ = ok (tx a)) (w2 : g ρ = ok (tx b)) : mT (mOp2 dEq f g) ρ = ok (decide (a = b)) := t_ev (op2_ev w1 w2 (dEq_tx a b))
theorem t_neS {a b : List Nat} (w1 : f ρ = ok (tx a)) (w2 : g ρ = ok (tx b)) : mT (mOp2 dNe f g) ρ = ok (!decide (a = b)) := t_ev (op2_ev w1 w2 (dNe_tx a b))
theorem t_eqP {a b : Int × Int} (w1 : f ρ = ok (pt a)) (w2 : g ρ = ok (pt b)) : mT (mOp2 dEq f g) ρ = ok (decide (a = b)) := t_ev (op2_ev w1 w2 (dEq_pt a b))
theorem t_neP {a b : Int × Int} (w1 : f ρ = ok (pt a)) (w2 : g ρ = ok (pt b)) : mT (mOp2 dNe f g) ρ = ok (!decide (a = b)) := t_ev (op2_ev w1 w2 (dNe_pt a b))
variable {c d : Sls → Res Bool} {a b : Bool}
theorem not_ev (w : c ρ = ok a) : mNot c ρ = ok (!a) := by
  unfold mNot
  rw [w, Res.ok_bind]
theorem and_ev (w : c ρ = ok a) (w2 : a = true → d ρ = ok b) : mAnd c d ρ = ok (a && b) := by
  unfold mAnd
  rw [w, Res.ok_bind]
  cases a with
  | true => rw [if_pos rfl, w2 rfl]; rfl
  | false => rfl
theorem or_ev (w : c ρ = ok a) (w2 : a = false → d ρ = ok b) : mOr c d ρ = ok (a || b) := by
  unfold mOr
  rw [w, Res.ok_bind]
  cases a with
  | true => rfl
  | false => rw [if_neg Bool.false_ne_true, w2 rfl]; rfl
theorem andV_ev (w : f ρ = ok (.bl a)) (w2 : a = true → g ρ = ok (.bl b)) : mAndV f g ρ = ok (.bl (a && b)) := by
  unfold mAndV
  rw [w, Res.ok_bind, asB_b, ofO_some, Res.ok_bind]
  cases a with
  | true => rw [if_pos rfl, w2 rfl]; rfl
  | false => rfl
theorem orV_ev (w : f ρ = ok (.bl a)) (w2 : a = false → g ρ = ok (.bl b)) : mOrV f g ρ = ok (.bl (a || b)) := by
  unfold mOrV
  rw [w, Res.ok_bind, asB_b, ofO_some, Res.ok_bind]
  cases a with
  | true => rfl
  | false => rw [if_neg Bool.false_ne_true, w2 rfl]; rfl
theorem notV_ev (w : f ρ = ok (.bl a)) : mNotV f ρ = ok (.bl (!a)) := by
  unfold mNotV
  rw [w, Res.ok_bind, asB_b, ofO_some, Res.ok_bind]
theorem if_ev {u v : D} (w : c ρ = ok a) (w1 : a = true → f ρ = ok u) (w2 : a = false → g ρ = ok v) : mIf c f g ρ = ok (if a = true then u else v) := by
  unfold mIf
  rw [w, Res.ok_bind]
  cases a with
  | true => rw [if_pos rfl, if_pos rfl, w1 rfl]
  | false => rw [if_neg Bool.false_ne_true, if_neg Bool.false_ne_true, w2 rfl]
theorem chain_ev {h1 h2 : D → D → Option D} {k : Sls → Res D} {u v w : D} (e1 : f ρ = ok u) (e2 : g ρ = ok v) (e3 : h1 u v = some (.bl a)) (e4 : a = true → k ρ = ok w ∧ h2 v w = some (.bl b)) : mChain h1 h2 f g k ρ = ok (.bl (a && b)) := by
  unfold mChain
  rw [e1, Res.ok_bind, e2, Res.ok_bind, e3, ofO_some, Res.ok_bind, asB_b, ofO_some, Res.ok_bind]
  cases a with
  | true => rw [if_pos rfl, (e4 rfl).1, Res.ok_bind, (e4 rfl).2]; rfl
  | false => rfl
/-! ### statements -/
variable {s t : Sls → Fl} {ρ' : Sls}
theorem seq_nx (e : s ρ = .nx ρ') : sSeq s t ρ = t ρ' := by
  unfold sSeq
  rw [e]
theorem seq_nx2 {fl : Fl} (e : s ρ = .nx ρ') (e2 : t ρ' = fl) : sSeq s t ρ = fl := (seq_nx e).trans e2
theorem seq_exc {z : Str} (e : s ρ = .exc z ρ') : sSeq s t ρ = .exc z ρ' := by
  unfold sSeq
  rw [e]
theorem seq_rt {u : D} (e : s ρ = .rt u) : sSeq s t ρ = .rt u := by
  unfold sSeq
  rw [e]
theorem set_ev {i : Nat} {u : D} (e : f ρ = ok u) : sSet i f ρ = .nx (ρ.set i (.fz u)) := by
  unfold sSet
  rw [e]
  rfl
theorem setO_ev {i : Nat} {u : D} (e : f ρ = ok u) : sSetO i f ρ = .nx (ρ.set i (.ow u)) := by
  unfold sSetO
  rw [e]
  rfl
theorem ret_ev {u : D} (e : f ρ = ok u) : sRet f ρ = .rt u := by
  unfold sRet
  rw [e]
  rfl
theorem drop_ev {u : D} (e : f ρ = ok u) : sDrop f ρ = .nx ρ := by
  unfold sDrop
  rw [e]
  rfl
theorem drop_exc {z : Str} (e : f ρ = exc z) : sDrop f ρ = .exc z ρ := by
  unfold sDrop
  rw [e]
  rfl
theorem if_t (e : c ρ = ok true) : sIf c s t ρ = s ρ := by
  unfold sIf
  rw [e]
  rfl
theorem if_f (e : c ρ = ok false) : sIf c s t ρ = t ρ := by
  unfold sIf
  rw [e]
  rfl
theorem if_nx (e : c ρ = ok false) : sIf c s sNx ρ = .nx ρ := (if_f e).trans rfl
theorem par_ev {i j : Nat} {u v : D} (e : f ρ = ok u) (e2 : g ρ = ok v) : sPar i j f g ρ = .nx ((ρ.set i (.fz u)).set j (.fz v)) := by
  unfold sPar
  rw [e, thenF_ok, e2, thenF_ok]
theorem asg2_ev {i j : Nat} {u v : D} (e : f ρ = ok (.tup [u, v])) : sAsg (tgTup 2 (tgsCons (tgName i) (tgsCons (tgName j) tgsNil))) f ρ = .nx ((ρ.set i (.fz u)).set j (.fz v)) := by
  unfold sAsg
  rw [e]
  rfl
theorem for_ev {it : Sls → Res (List D)} {tg : TgF} {xs : List D} (e : it ρ = ok xs) : sFor it tg s ρ = forL (fun x ρ => thenF (tg x ρ).quiet ρ s) xs ρ := by
  unfold sFor
  rw [e, thenF_ok]
theorem it_ev {u : D} {xs : List D} (e : f ρ = ok u) (e2 : items u = some xs) : mIt f ρ = ok xs := by
  unfold mIt
  rw [e, Res.ok_bind, e2, ofO_some]
theorem app_ev {i : Nat} {xs : List D} {u : D} (h : ρ[i]? = some (.ow (.lst xs))) (hf : f ρ = ok u) (hl : xs.length ≤ 1000000) : sApp i f ρ = .nx (ρ.set i (.ow (.lst (xs ++ [u])))) := by
  unfold sApp
  rw [h]
  show thenF (f ρ) ρ _ = _
  rw [hf, thenF_ok, if_pos (by have := size1000; omega)]
theorem for_name {i : Nat} {x : D} : thenF (tgName i x ρ).quiet ρ s = s (ρ.set i (.fz x)) := rfl
theorem sl_to {u v : D} {k : Int} (e : f ρ = ok u) (e2 : g ρ = ok (.int k)) (e3 : dSl u none (some k) = some v) : mSl dSl f mNoPart (mPart g) ρ = ok v := by
  unfold mSl mNoPart mPart
  rw [e, Res.ok_bind, Res.ok_bind, e2]
  show ofO (dSl u none (some k)) = _
  rw [e3, ofO_some]
theorem sl_from {u v : D} {k : Int} (e : f ρ = ok u) (e2 : g ρ = ok (.int k)) (e3 : dSl u (some k) none = some v) : mSl dSl f (mPart g) mNoPart ρ = ok v := by
  unfold mSl mNoPart mPart
  rw [e, Res.ok_bind, e2]
  show ofO (dSl u (some k) none) = _
  rw [e3, ofO_some]
theorem sl_both {u v : D} {k l : Int} {f2 : Sls → Res D} (e : f ρ = ok u) (e1 : f2 ρ = ok (.int l)) (e2 : g ρ = ok (.int k)) (e3 : dSl u (some l) (some k) = some v) : mSl dSl f (mPart f2) (mPart g) ρ = ok v := by
  unfold mSl mPart
  rw [e, Res.ok_bind, e1]
  show ((g ρ >>= fun x => ofO (asI x) >>= fun i => ok (some i)) >>= fun hi => ofO (dSl u (some l) hi)) = _
  rw [e2]
  show ofO (dSl u (some l) (some k)) = _
  rw [e3, ofO_some]
theorem m1_ev {h : D → D → Option D} {z : Str} {v w : D} (e : f ρ = ok (.str z)) (e2 : g ρ = ok v) (e3 : h (.str z) v = some w) : mM1 h f g ρ = ok w := by
  unfold mM1
  rw [e, Res.ok_bind]
  show (g ρ >>= fun y => ofO (h (.str z) y)) = _
  rw [e2, Res.ok_bind, e3, ofO_some]
theorem lc_ev {α : Type} {it : Sls → Res (List D)} {vs : List Nat} {tg : TgF} {tt : Sls → Res Bool} {te : Sls → Res D} {emb : α → D} {as : List α} {p : α → Bool} {g : α → D} (hi : it ρ = ok (as.map emb))
    (h : ∀ a ∈ as, ∃ ρ', tg (emb a) (wipeS ρ vs) = ok ρ' ∧ tt ρ' = ok (p a) ∧ (p a = true → te ρ' = ok (g a))) : mLc it vs tg tt te ρ = ok (.lst ((as.filter p).map g)) := by
  unfold mLc
  rw [hi]
  simp only [Res.ok_bind]
  rw [compL_of (g := fun a => if p a then some (g a) else none) fun a ha => ?_]
  · simp only [Res.ok_bind]
    congr 2
    clear h hi
    induction as with
    | nil => rfl
    | cons a r ih =>
      rw [List.filterMap_cons, List.filter_cons]
      cases p a with
      | true => simp only [if_true, List.map_cons]; rw [ih]
      | false => simp only [Bool.false_eq_true, if_false]; exact ih
  · obtain ⟨ρ', h1, h2, h3⟩ := h a ha
    unfold lcStep
    rw [h1, Res.ok_bind, h2, Res.ok_bind]
    cases hp : p a with
    | true => rw [if_pos rfl, h3 hp]; rfl
    | false => rfl
theorem lc_ev0 {α : Type} {it : Sls → Res (List D)} {vs : List Nat} {tg : TgF} {te : Sls → Res D} {emb : α → D} {as : List α} {g : α → D} (hi : it ρ = ok (as.map emb))
    (h : ∀ a ∈ as, ∃ ρ', tg (emb a) (wipeS ρ vs) = ok ρ' ∧ te ρ' = ok (g a)) : mLc it vs tg mYes te ρ = ok (.lst (as.map g)) := by
  have := lc_ev (p := fun _ => true) (tt := mYes) hi fun a ha => by
    obtain ⟨ρ', h1, h2⟩ := h a ha
    exact ⟨ρ', h1, rfl, fun _ => h2⟩
  have e : as.filter (fun _ => true) = as := List.filter_eq_self.mpr fun _ _ => rfl
  rw [e] at this
  exact this
end
end PP

namespace PP
open PySem L2
open Res (ok exc bad)
theorem lit_hash : Str.ofString "#" = mkS [35] := by decide +kernel
theorem lit_dot : Str.ofString "." = mkS [46] := by decide +kernel
theorem lit_nil : Str.ofString "" = mkS [] := by decide +kernel
abbrev rowsL (rows : List (List Nat)) : List D := rows.map tx
abbrev rowsD (rows : List (List Nat)) : D := .tup (rowsL rows)
structure OkRows (rows : List (List Nat)) (h w : Nat) : Prop where
  len : rows.length = h
  wid : ∀ l ∈ rows, l.length = w
  sgn : ∀ l ∈ rows, ∀ c ∈ l, c = 35 ∨ c = 46
  h1 : 1 ≤ h
  h2 : h ≤ 14
  w1 : 1 ≤ w
  w2 : w ≤ 14
/-- a comprehension over numbers from 0 -/
theorem lc_range {it : Sls → Res (List D)} {i n : Nat} {te : Sls → Res D} {ρ : Sls} {g : Nat → D} (hi : it ρ = ok (rangeD 0 n)) (h : ∀ k < n, te ((ρ.set i .no).set i (.fz (.int (k : Int)))) = ok (g k)) : mLc it [i] (tgName i) mYes te ρ = ok (.lst ((List.range n).map g)) := by
  unfold mLc
  rw [hi]
  simp only [Res.ok_bind]
  rw [rangeD_map, compL_all (g := g) fun k hk => ?_]
  · rfl
  · have hk' := List.mem_range.mp hk
    show (tgName i (.int (0 + (k : Int))) (wipeS ρ [i]) >>= fun ρ' => mYes ρ' >>= fun b => if b then te ρ' >>= fun y => ok (some y) else ok none) = _
    rw [Int.zero_add]
    have := h k hk'
    simp only [tgName, wipeS, mYes, Res.ok_bind, if_true]
    rw [this]
    rfl
def rst (ds : List Int) (h w : Int) (found : List (List Nat)) (s4 s5 s6 : Sl) : Sls := [.fz (.lst (ds.map .int)), .fz (.int h), .fz (.int w), .ow (.lst (rowsL found)), s4, s5, s6]
theorem rng_nat {f : Sls → Res D} {ρ : Sls} {n : Nat} (h : f ρ = ok (.int (n : Int))) (hn : n ≤ 1000000) : mRng rng1 [f] ρ = ok (rangeD 0 n) := by
  have : rng1 [.int (n : Int)] = some (rangeD 0 n) := by
    show (if (n : Int) ≤ 1000000 ∧ -1000000 ≤ (n : Int) then some (rangeD 0 (n : Int).toNat) else none) = _
    rw [if_pos (by omega)]
    rfl
  simp [mRng, mArgs, h, this]
def rowSign (draw row d0 : Int) (k : Nat) : Nat := if (draw * ((k : Int) + (3 : Int)) + (k : Int) * (37 : Int) + row * (11 : Int)) / (7 : Int) % (8 : Int) < d0 % (4 : Int) then 35 else 46
theorem ones_sum {α : Type} (g : α → Nat) : ∀ l : List α, ((l.map fun k => [g k]).map List.length).sum = l.length
  | [] => rfl
  | a :: r => by
    have := ones_sum g r
    simp only [List.map_cons, List.sum_cons, List.length_cons, List.length_nil] at this ⊢
    omega
theorem ones_flat {α : Type} (g : α → Nat) : ∀ l : List α, (l.map fun k => [g k]).flatten = l.map g
  | [] => rfl
  | a :: r => by
    rw [List.map_cons, List.flatten_cons, ones_flat g r]
    rfl
theorem dJoin_ones {α : Type} (g : α → Nat) (l : List α) (h : l.length ≤ 1000000) : dJoin (tx []) (.lst (l.map fun k => tx [g k])) = some (tx (l.map g)) := by
  have := dJoin_tx (ls := l.map fun k => [g k]) (by rw [ones_sum]; exact h)
  rw [List.map_map, ones_flat] at this
  exact this
theorem rows_step (ds : List Int) (h w : Nat) (found : List (List Nat)) (row : Nat) (s4 s5 s6 : Sl) (hd : Drawn ds) (hl : 2 ≤ ds.length) (hw : w ≤ 14) (hf : found.length ≤ 100) :
    ∃ l s4' s5' s6', thenF (tgName 4 (.int (0 + (row : Int))) (rst ds h w found s4 s5 s6)).quiet (rst ds h w found s4 s5 s6) (sSeq (sSet 5 (mBI dInt [(mOp2 dIx (mVar 0) (mOp2 dAdd (mC (.int 1)) (mOp2 dMod (mVar 4) (mOp2 dSub (mBI dLen [(mVar 0)]) (mC (.int 1))))))]))
    (sApp 3 (mM1 dJoin (mC (.str "")) (mLc (mRng rng1 [(mVar 2)]) [6] (tgName 6) mYes (mIf (mT (mOp2 dLt (mOp2 dMod (mOp2 dDiv (mBI dInt [(mOp2 dAdd (mOp2 dAdd (mOp2 dMul (mVar 5) (mOp2 dAdd (mVar 6) (mC (.int 3)))) (mOp2 dMul (mVar 6) (mC (.int 37)))) (mOp2 dMul (mVar 4) (mC (.int 11))))]) (mC (.int 7))) (mC (.int 8))) (mOp2 dMod (mBI dInt [(mOp2 dIx (mVar 0) (mC (.int 0)))]) (mC (.int 4))))) (mC (.str "#")) (mC (.str "."))))))) = .nx (rst ds h w (found ++ [l]) s4' s5' s6') ∧ l.length = w ∧ ∀ c ∈ l, c = 35 ∨ c = 46 := by
  have e0 : tgName 4 (.int (0 + (row : Int))) (rst ds h w found s4 s5 s6) = ok (rst ds h w found (.fz (.int row)) s5 s6) := by
    rw [Int.zero_add]
    rfl
  rw [e0]
  simp only [Res.quiet_ok, thenF_ok]
  have hm : (0 : Int) < (ds.length : Int) - 1 := by omega
  have hix : (1 + (row : Int) % ((ds.length : Int) - 1)).toNat < ds.length := by
    have a := Int.emod_nonneg (row : Int) (show ((ds.length : Int) - 1) ≠ 0 by omega)
    have b := Int.emod_lt_of_pos (row : Int) hm
    omega
  have h0 : (0 : Int) ≤ 1 + (row : Int) % ((ds.length : Int) - 1) := by
    have a := Int.emod_nonneg (row : Int) (show ((ds.length : Int) - 1) ≠ 0 by omega)
    omega
  generalize hq : ds[(1 + (row : Int) % ((ds.length : Int) - 1)).toNat] = draw
  have hdraw := hd draw (by rw [← hq]; exact List.getElem_mem _)
  have ex : dIx (.lst (ds.map .int)) (.int (1 + (row : Int) % ((ds.length : Int) - 1))) = some (.int draw) := by
    rw [dIx_lst h0, List.getElem?_map, List.getElem?_eq_getElem hix, hq]
    rfl
  have ex0 : dIx (.lst (ds.map .int)) (.int 0) = some (.int ds[0]) := by
    rw [dIx_lst (by decide), List.getElem?_map]
    show Option.map D.int ds[0]? = _
    rw [List.getElem?_eq_getElem (by omega)]
    rfl
  have e1 : sSet 5 (mBI dInt [(mOp2 dIx (mVar 0) (mOp2 dAdd (mC (.int 1)) (mOp2 dMod (mVar 4) (mOp2 dSub (mBI dLen [(mVar 0)]) (mC (.int 1))))))]) (rst ds h w found (.fz (.int row)) s5 s6) = .nx (rst ds h w found (.fz (.int row)) (.fz (.int draw)) s6) := by
    simp [sSet, mBI, mArgs, mVar, rst, mOp2, mC, dMod_i hm, ex]
  let g : Nat → Nat := rowSign draw row ds[0]
  have e2 : mLc (mRng rng1 [(mVar 2)]) [6] (tgName 6) mYes (mIf (mT (mOp2 dLt (mOp2 dMod (mOp2 dDiv (mBI dInt [(mOp2 dAdd (mOp2 dAdd (mOp2 dMul (mVar 5) (mOp2 dAdd (mVar 6) (mC (.int 3)))) (mOp2 dMul (mVar 6) (mC (.int 37)))) (mOp2 dMul (mVar 4) (mC (.int 11))))]) (mC (.int 7))) (mC (.int 8))) (mOp2 dMod (mBI dInt [(mOp2 dIx (mVar 0) (mC (.int 0)))]) (mC (.int 4))))) (mC (.str "#")) (mC (.str "."))) (rst ds h w found (.fz (.int row)) (.fz (.int draw)) s6) = ok (.lst ((List.range w).map fun k => tx [g k])) := by
    refine lc_range (rng_nat rfl (by omega)) fun k hk => ?_
    have w1 : mVar 5 (((rst ds h w found (.fz (.int row)) (.fz (.int draw)) s6).set 6 .no).set 6 (.fz (.int (k : Int)))) = ok (.int draw) := rfl
    have w2 : mVar 6 (((rst ds h w found (.fz (.int row)) (.fz (.int draw)) s6).set 6 .no).set 6 (.fz (.int (k : Int)))) = ok (.int (k : Int)) := rfl
    have w3 : mVar 4 (((rst ds h w found (.fz (.int row)) (.fz (.int draw)) s6).set 6 .no).set 6 (.fz (.int (k : Int)))) = ok (.int (row : Int)) := rfl
    have w4 : mVar 0 (((rst ds h w found (.fz (.int row)) (.fz (.int draw)) s6).set 6 .no).set 6 (.fz (.int (k : Int)))) = ok (.lst (ds.map .int)) := rfl
    refine (if_ev (t_lt (i_mod (i_div (i_int (i_add (i_add (i_mulL w1 (i_add w2 rfl)) (i_mulR w2 rfl)) (i_mulR w3 rfl))) rfl) rfl) (i_mod (i_int (op2_ev w4 rfl ex0)) rfl)) (fun _ => rfl) (fun _ => rfl)).trans ?_
    show ok _ = ok (tx [rowSign draw row ds[0] k])
    unfold rowSign
    by_cases hc : (draw * ((k : Int) + (3 : Int)) + (k : Int) * (37 : Int) + (row : Int) * (11 : Int)) / (7 : Int) % (8 : Int) < (ds[0] : Int) % (4 : Int)
    · rw [if_pos hc, if_pos (decide_eq_true hc), lit_hash]
    · rw [if_neg hc, if_neg (by rw [decide_eq_false hc]; exact Bool.false_ne_true), lit_dot]
  have e3 : mM1 dJoin (mC (.str "")) (mLc (mRng rng1 [(mVar 2)]) [6] (tgName 6) mYes (mIf (mT (mOp2 dLt (mOp2 dMod (mOp2 dDiv (mBI dInt [(mOp2 dAdd (mOp2 dAdd (mOp2 dMul (mVar 5) (mOp2 dAdd (mVar 6) (mC (.int 3)))) (mOp2 dMul (mVar 6) (mC (.int 37)))) (mOp2 dMul (mVar 4) (mC (.int 11))))]) (mC (.int 7))) (mC (.int 8))) (mOp2 dMod (mBI dInt [(mOp2 dIx (mVar 0) (mC (.int 0)))]) (mC (.int 4))))) (mC (.str "#")) (mC (.str ".")))) (rst ds h w found (.fz (.int row)) (.fz (.int draw)) s6) = ok (tx ((List.range w).map g)) := by
    have : dJoin (tx []) (.lst ((List.range w).map fun k => tx [g k])) = some (tx ((List.range w).map g)) := dJoin_ones g _ (by rw [List.length_range]; omega)
    unfold mM1
    rw [e2]
    simp only [mC, Res.ok_bind, lit_nil, isS, if_true, this, ofO_some]
  refine ⟨(List.range w).map g, .fz (.int row), .fz (.int draw), s6, ?_, by simp, fun c hc => ?_⟩
  · simp only [sSeq, e1]
    unfold sApp
    show thenF (mM1 _ _ _ _) _ _ = _
    rw [e3]
    simp only [thenF_ok]
    rw [if_pos (by rw [List.length_map]; have := size1000; omega)]
    show Fl.nx _ = Fl.nx (rst ds h w (found ++ [(List.range w).map g]) _ _ _)
    unfold rst rowsL
    rw [List.map_append]
    rfl
  · obtain ⟨k, _, rfl⟩ := List.mem_map.mp hc
    show rowSign draw row ds[0] k = 35 ∨ rowSign draw row ds[0] k = 46
    unfold rowSign
    split
    · exact .inl rfl
    · exact .inr rfl
theorem rows_ok (ds : List Int) (h w : Nat) (hd : Drawn ds) (hl : 2 ≤ ds.length) (h1 : 1 ≤ h) (h2 : h ≤ 14) (w1 : 1 ≤ w) (w2 : w ≤ 14) :
    ∃ rows : List (List Nat), F__law_rows [.lst (ds.map .int), .int h, .int w] = ok (rowsD rows) ∧ OkRows rows h w ∧ ∃ l r, rows = (46 :: l) :: r := by
  have e1 : sSetO 3 (mLst []) (startS 7 [.lst (ds.map .int), .int h, .int w]) = .nx (rst ds h w [] .no .no .no) := rfl
  obtain ⟨ρ1, f1, found, s4, s5, s6, r1, r2, r3⟩ := forL_inv (xs := rangeD 0 h) (i := 0) (ρ := rst ds h w [] .no .no .no)
    (step := fun x ρ => thenF (tgName 4 x ρ).quiet ρ (sSeq (sSet 5 (mBI dInt [(mOp2 dIx (mVar 0) (mOp2 dAdd (mC (.int 1)) (mOp2 dMod (mVar 4) (mOp2 dSub (mBI dLen [(mVar 0)]) (mC (.int 1))))))]))
    (sApp 3 (mM1 dJoin (mC (.str "")) (mLc (mRng rng1 [(mVar 2)]) [6] (tgName 6) mYes (mIf (mT (mOp2 dLt (mOp2 dMod (mOp2 dDiv (mBI dInt [(mOp2 dAdd (mOp2 dAdd (mOp2 dMul (mVar 5) (mOp2 dAdd (mVar 6) (mC (.int 3)))) (mOp2 dMul (mVar 6) (mC (.int 37)))) (mOp2 dMul (mVar 4) (mC (.int 11))))]) (mC (.int 7))) (mC (.int 8))) (mOp2 dMod (mBI dInt [(mOp2 dIx (mVar 0) (mC (.int 0)))]) (mC (.int 4))))) (mC (.str "#")) (mC (.str "."))))))))
    (R := fun i ρ => ∃ found s4 s5 s6, ρ = rst ds h w found s4 s5 s6 ∧ found.length = i ∧ ∀ l ∈ found, l.length = w ∧ ∀ c ∈ l, c = 35 ∨ c = 46) (fun j x ρ hx ⟨found, s4, s5, s6, e, q1, q2⟩ => by
      have hj : j < h := by
        have := (List.getElem?_eq_some_iff.mp hx).1
        simpa [rangeD] using this
      rw [rangeD_map, List.getElem?_map] at hx
      obtain ⟨c, hc, rfl⟩ := Option.map_eq_some_iff.mp hx
      subst e
      obtain ⟨l, s4', s5', s6', z, z1, z2⟩ := rows_step ds h w found c s4 s5 s6 hd hl w2 (by omega)
      refine ⟨_, .inl z, found ++ [l], s4', s5', s6', rfl, by simp; omega, fun m hm => ?_⟩
      rcases List.mem_append.mp hm with hm | hm
      · exact q2 m hm
      · rw [List.mem_singleton.mp hm]; exact ⟨z1, z2⟩) ⟨[], .no, .no, .no, rfl, rfl, fun _ z => by simp at z⟩
  have hlen : found.length = h := by
    have : (rangeD 0 h).length = h := by simp [rangeD]
    omega
  obtain ⟨a, fr, rfl⟩ : ∃ a fr, found = a :: fr := by
    cases found with
    | nil => simp at hlen; omega
    | cons a fr => exact ⟨a, fr, rfl⟩
  obtain ⟨ha1, ha2⟩ := r3 a (by simp)
  refine ⟨(46 :: a.drop 1) :: fr, ?_, ⟨by simpa using hlen, fun l hl => ?_, fun l hl c hc => ?_, h1, h2, w1, w2⟩, _, _, rfl⟩
  · refine runF_rt ?_
    unfold b__law_rows
    have er : mRng rng1 [(mVar 1)] (rst ds h w [] .no .no .no) = ok (rangeD 0 h) := rng_nat rfl (by omega)
    simp only [sSeq, e1, sFor, er, thenF_ok, f1, r1]
    have x0 : dIx (.lst (rowsL (a :: fr))) (.int 0) = some (tx a) := by
      rw [dIx_lst (by decide)]
      rfl
    have x1 : dSl (tx a) (some 1) none = some (tx (a.drop 1)) := dSl_txFrom (by omega) (by decide)
    have x2 : dAdd (tx [46]) (tx (a.drop 1)) = some (tx (46 :: a.drop 1)) := dAdd_tx (by simp; omega)
    have x3 : dSl (.lst (rowsL (a :: fr))) (some 1) none = some (.lst (rowsL fr)) := by
      show some (D.lst (cutD (rowsL (a :: fr)) (some 1) none)) = _
      rw [cutD_from (by decide)]
      rfl
    have x4 : dAdd (.lst [tx (46 :: a.drop 1)]) (.lst (rowsL fr)) = some (.lst (rowsL ((46 :: a.drop 1) :: fr))) := by
      show (if [tx (46 :: a.drop 1)].length + (rowsL fr).length ≤ sizeLine then some (D.lst ([tx (46 :: a.drop 1)] ++ rowsL fr)) else none) = _
      rw [if_pos (by simp at hlen ⊢; have := size1000; omega)]
      rfl
    simp only [sRet, mBI, mArgs, mOp2, mLst, mSl, mVarB, rst, List.getElem?_cons_succ, List.getElem?_cons_zero, Res.ok_bind, mC, mPart, mNoPart, lit_dot, x0, asI_i, ofO_some, x1, x2, x3, x4, dTuple, thenF_ok]
  · rcases List.mem_cons.mp hl with e | e
    · rw [e]; simp; omega
    · exact (r3 l (by simp [e])).1
  · rcases List.mem_cons.mp hl with e | e
    · rw [e] at hc
      rcases List.mem_cons.mp hc with e2 | e2
      · exact .inr e2
      · exact ha2 c (List.mem_of_mem_drop e2)
    · exact (r3 l (by simp [e])).2 c hc
end PP

namespace PP
open PySem PySem.Spec PyProof.Rows L2
open Res (ok exc bad)
/-! ### keys -/
section
variable {X : Cx} {pins : List (Addr × Obj)} {σ : L2.St} {H : Hp} {O : Addr → Prop} {s : Shared}
mutual
theorem nested_of (I : Inv X pins σ H s) : ∀ {v d k u}, Rep X.K H O v d → keyD d = some k → RelV v u → NestedIs s.heap k u
  | _, _, _, _, .int i, e, r => by
    simp [keyD] at e
    subst e
    obtain ⟨t, rfl⟩ := r
    exact .int i t
  | _, _, k, u, .tup (a := a) h z r, e, ru => by
    simp only [keyD, Option.map_eq_some_iff] at e
    obtain ⟨ks, e1, rfl⟩ := e
    cases (show u = Value.ref a from ru)
    obtain ⟨its, rv, ⟨o, ho, hc, n, hd⟩, _⟩ := I.tuple h
    exact .tup ho hc hd (by simpa using nested_all I r e1 rv)
  | _, _, _, _, .non, e, _ => by simp [keyD] at e
  | _, _, _, _, .bl _, e, _ => by simp [keyD] at e
  | _, _, _, _, .str _, e, _ => by simp [keyD] at e
  | _, _, _, _, .ty _, e, _ => by simp [keyD] at e
  | _, _, _, _, .lst _ _ _ _, e, _ => by simp [keyD] at e
  | _, _, _, _, .kl _ _ _, e, _ => by simp [keyD] at e
  | _, _, _, _, .obj _ _ _, e, _ => by simp [keyD] at e
  | _, _, _, _, .dct _ _ _ _ _, e, _ => by simp [keyD] at e
theorem nested_all (I : Inv X pins σ H s) : ∀ {vs ds ks us}, Reps X.K H O vs ds → keyD.keyDs ds = some ks → Vals vs us → NestedAll s.heap ks us
  | _, _, _, _, .nil, e, .nil => by
    simp [keyD.keyDs] at e
    subst e
    exact .nil
  | _, _, _, _, .cons r t, e, .cons ru rus => by
    simp only [keyD.keyDs, Option.bind_eq_some_iff, Option.map_eq_some_iff] at e
    obtain ⟨k, e1, ks, e2, rfl⟩ := e
    exact .cons (nested_of I r e1 ru) (nested_all I t e2 rus)
end
end
/-- a dict's key: a tuple, at most 8 deep -/
def keyT : D → Option NestedKey
  | .tup xs => (keyD (.tup xs)).bind fun k => if k.depth ≤ 8 then some k else none
  | _ => none
theorem keyT_ok {d : D} {k : NestedKey} (h : keyT d = some k) : keyD d = some k ∧ k.depth ≤ 8 ∧ ∃ xs, d = .tup xs := by
  cases d with
  | tup xs =>
    obtain ⟨k', e1, e2⟩ := Option.bind_eq_some_iff.mp (show ((keyD (.tup xs)).bind fun k => if k.depth ≤ 8 then some k else none) = some k from h)
    split at e2
    · cases e2
      exact ⟨e1, by assumption, xs, rfl⟩
    · cases e2
  | _ => cases h
/-- all keys are such -/
def keysOk (kvs : List (D × D)) : Bool := kvs.all fun p => (keyT p.1).isSome
def lookD (kvs : List (D × D)) (k : NestedKey) : Option D := (kvs.find? fun p => decide (keyD p.1 = some k)).map (·.2)
section
variable {K : PySem.W.Frag} {H : Hp} {O : Addr → Prop}
theorem RepKs.look {k : NestedKey} : ∀ {xs kvs}, RepKs K H O xs kvs → (atKey xs k).isSome = (lookD kvs k).isSome ∧ ∀ d, lookD kvs k = some d → ∃ p v, atKey xs k = some p ∧ RelV v p.2 ∧ Rep K H O v d
  | _, _, .nil => ⟨rfl, fun d e => by cases e⟩
  | _, _, .cons (k := k') (b := b) (u := u) (v := v) (dk := dk) (dv := dv) r ek ru rv t => by
    obtain ⟨i1, i2⟩ := t.look (k := k)
    unfold atKey lookD
    rw [List.find?_cons, List.find?_cons]
    by_cases e : k' = k
    · subst e
      rw [decide_eq_true rfl, decide_eq_true ek]
      exact ⟨rfl, fun d ed => by cases ed; exact ⟨(b, u), v, rfl, ru, rv⟩⟩
    · have e2 : ¬ keyD dk = some k := by rw [ek]; exact fun z => e (Option.some.inj z)
      rw [decide_eq_false e, decide_eq_false e2]
      exact ⟨i1, i2⟩
theorem RepKs.key : ∀ {xs kvs}, RepKs K H O xs kvs → keysOk kvs = true → ∀ x ∈ xs, ∃ dk, Rep K H O (.ref x.2.1) dk ∧ keyD dk = some x.1 ∧ x.1.depth ≤ 8
  | _, _, .nil, _, x, hx => by cases hx
  | _, _, .cons (k := k') (dk := dk) r ek ru rv t, hk, x, hx => by
    unfold keysOk at hk
    rw [List.all_cons, Bool.and_eq_true] at hk
    rcases List.mem_cons.mp hx with e | e
    · subst e
      obtain ⟨k2, e2⟩ := Option.isSome_iff_exists.mp hk.1
      obtain ⟨e3, e4, _⟩ := keyT_ok e2
      have : k2 = k' := Option.some.inj (e3.symm.trans ek)
      subst this
      exact ⟨dk, r, ek, e4⟩
    · exact t.key hk.2 x e
theorem RepKs.length : ∀ {xs kvs}, RepKs K H O xs kvs → xs.length = kvs.length
  | _, _, .nil => rfl
  | _, _, .cons _ _ _ _ t => congrArg (· + 1) t.length
end
/-! ### the object -/
section
variable {X : Cx} {pins : List (Addr × Obj)} {σ : L2.St} {H : Hp} {O : Addr → Prop} {s : Shared} {a : Addr} {ob : Obj} {xs : List (NestedKey × Addr × Value)} {kvs : List (D × D)}
theorem dict_of (I : Inv X pins σ H s) (e : H a = some (.ext (DictAt a ob xs))) (r : RepKs X.K H O xs kvs) (hk : keysOk kvs = true) (nd : (xs.map (·.1)).Nodup) : (a == sysModules) = false ∧ s.heap.DictOfH (nestedKind X.prog X.w) a xs := by
  obtain ⟨⟨h1, h2, h3, es, ep, h4, h5⟩, _⟩ := (show ObjOk X.prog X.w H s.heap a (.ext (DictAt a ob xs)) from I.hok a _ e)
  exact ⟨h1, ob, es, ep, h2, h3, h4, h5 X.w, fun x hx => by
    obtain ⟨dk, r1, r2, r3⟩ := r.key hk x hx
    exact ⟨nested_of I r1 r2 rfl, r3⟩, nd⟩
theorem room8 {A : Around} (h : A.units + 65 < cLine) : A.in1.units + 8 < cLine := by
  show A.units + 1 + 8 < cLine
  omega
/-- y in d -/
def rInDct (K : PySem.W.Frag) (neg : Bool) : R2 := fun x y H Q => ∃ b a ob xs kvs d k Z, x = .ref b ∧ y = .ref a ∧ H a = some (.ext (DictAt a ob xs)) ∧ RepKs K H Z xs kvs ∧ keysOk kvs = true ∧ (xs.map (·.1)).Nodup ∧ Rep K H Z (.ref b) d ∧ keyT d = some k ∧ Q (.bl (neg ^^ (lookD kvs k).isSome)) H
theorem op_inDct (hu : X.A.units + 65 < cLine) : OpR X (compareOp .In) (rInDct X.K false) := by
  intro pins s σ H x y v u Q I rx ry h
  obtain ⟨b, a, ob, xs, kvs, d, k, Z, rfl, rfl, e, r, hk, nd, rd, kt, q⟩ := h
  cases rx
  cases ry
  obtain ⟨h1, h2⟩ := dict_of I e r hk nd
  obtain ⟨k1, k2, _⟩ := keyT_ok kt
  refine wpAny_in_heap (knd := nestedKind X.prog X.w) (room8 hu) ⟨nested_of I rd k1 rfl, k2⟩ h1 h2 ?_
  rw [(r.look (k := k)).1]
  rw [Bool.false_xor] at q
  exact ⟨.bl _, H, I.tok _, rfl, q⟩
theorem op_notInDct (hu : X.A.units + 65 < cLine) : OpR X (compareOp .NotIn) (rInDct X.K true) := by
  intro pins s σ H x y v u Q I rx ry h
  obtain ⟨b, a, ob, xs, kvs, d, k, Z, rfl, rfl, e, r, hk, nd, rd, kt, q⟩ := h
  cases rx
  cases ry
  obtain ⟨h1, h2⟩ := dict_of I e r hk nd
  obtain ⟨k1, k2, _⟩ := keyT_ok kt
  refine wpAny_notIn_heap (knd := nestedKind X.prog X.w) (room8 hu) ⟨nested_of I rd k1 rfl, k2⟩ h1 h2 ?_
  rw [(r.look (k := k)).1]
  rw [Bool.true_xor] at q
  exact ⟨.bl _, H, I.tok _, rfl, q⟩
/-- d[y] -/
def rIxDct (K : PySem.W.Frag) : R2 := fun y x H Q => ∃ b a ob xs kvs d k dv Z, x = .ref b ∧ y = .ref a ∧ H a = some (.ext (DictAt a ob xs)) ∧ RepKs K H Z xs kvs ∧ keysOk kvs = true ∧ (xs.map (·.1)).Nodup ∧ Rep K H Z (.ref b) d ∧ keyT d = some k ∧ lookD kvs k = some dv ∧ ∀ v, Rep K H Z v dv → Q v H
theorem ix_dct (hu : X.A.units + 65 < cLine) : IxR X (rIxDct X.K) := by
  intro value slice pins s σ H x y v u Q I rx ry h hs
  obtain ⟨b, a, ob, xs, kvs, d, k, dv, Z, rfl, rfl, e, r, hk, nd, rd, kt, lk, q⟩ := h
  cases rx
  cases ry
  obtain ⟨h1, h2⟩ := dict_of I e r hk nd
  obtain ⟨k1, k2, _⟩ := keyT_ok kt
  obtain ⟨p, v, e1, e2, e3⟩ := (r.look (k := k)).2 dv lk
  refine tail_any h2.typeIs PySem.F.slot_dict_getitem.lookup (wpAny_getItem_heap (knd := nestedKind X.prog X.w) (room8 hu) ⟨nested_of I rd k1 rfl, k2⟩ h2 e1 ?_) hs
  exact ⟨v, H, I.tok _, e2, q v e3⟩
end
/-! ### hashes that are the same in every world -/
mutual
theorem keyD_hash : ∀ {d : D} {k : NestedKey}, keyD d = some k → ∀ w w' : World, k.hash w = k.hash w'
  | .int i, k, e, w, w' => by
    simp [keyD] at e
    subst e
    simp [NestedKey.hash]
  | .tup xs, k, e, w, w' => by
    simp only [keyD, Option.map_eq_some_iff] at e
    obtain ⟨ks, e1, rfl⟩ := e
    simp only [NestedKey.hash, keyDs_hash e1 w w']
  | .non, _, e, _, _ => by simp [keyD] at e
  | .bl _, _, e, _, _ => by simp [keyD] at e
  | .str _, _, e, _, _ => by simp [keyD] at e
  | .ty _, _, e, _, _ => by simp [keyD] at e
  | .lst _, _, e, _, _ => by simp [keyD] at e
  | .kl _, _, e, _, _ => by simp [keyD] at e
  | .obj _ _, _, e, _, _ => by simp [keyD] at e
  | .dct _, _, e, _, _ => by simp [keyD] at e
theorem keyDs_hash : ∀ {ds : List D} {ks : List NestedKey}, keyD.keyDs ds = some ks → ∀ w w' : World, NestedKey.hashes w ks = NestedKey.hashes w' ks
  | [], ks, e, w, w' => by
    simp [keyD.keyDs] at e
    subst e
    simp [NestedKey.hashes]
  | d :: ds, ks, e, w, w' => by
    simp only [keyD.keyDs, Option.bind_eq_some_iff, Option.map_eq_some_iff] at e
    obtain ⟨k, e1, ks', e2, rfl⟩ := e
    simp only [NestedKey.hashes, keyD_hash e1 w w', keyDs_hash e2 w w']
end
/-! ### d[k] = v -/
def putD (kvs : List (D × D)) (dk : D) (k : NestedKey) (dv : D) : List (D × D) := if (lookD kvs k).isSome then kvs.map (fun p => if keyD p.1 = some k then (p.1, dv) else p) else kvs ++ [(dk, dv)]
section
variable {K : PySem.W.Frag} {H : Hp} {O : Addr → Prop}
theorem RepKs.repl {k : NestedKey} {u : Value} {v : V} {dv : D} (ru : RelV v u) (rv : Rep K H O v dv) : ∀ {xs kvs}, RepKs K H O xs kvs → RepKs K H O (xs.map (putAt k u)) (kvs.map fun p => if keyD p.1 = some k then (p.1, dv) else p)
  | _, _, .nil => .nil
  | _, _, .cons (k := k') (b := b) (u := u') (dk := dk) (dv := dv') r ek ru' rv' t => by
    have ih := RepKs.repl (k := k) ru rv t
    rw [List.map_cons, List.map_cons]
    unfold putAt at ih ⊢
    by_cases e : k' = k
    · rw [if_pos e, if_pos (by rw [ek, e])]
      exact .cons r ek ru rv ih
    · rw [if_neg e, if_neg (by rw [ek]; exact fun z => e (Option.some.inj z))]
      exact .cons r ek ru' rv' ih
theorem RepKs.app : ∀ {xs ys kvs lvs}, RepKs K H O xs kvs → RepKs K H O ys lvs → RepKs K H O (xs ++ ys) (kvs ++ lvs)
  | _, _, _, _, .nil, s => s
  | _, _, _, _, .cons r k u v t, s => .cons r k u v (t.app s)
theorem RepKs.put {xs kvs} {k : NestedKey} {b : Addr} {u : Value} {v : V} {dk dv : D} (h : RepKs K H O xs kvs) (r : Rep K H O (.ref b) dk) (ek : keyD dk = some k) (ru : RelV v u) (rv : Rep K H O v dv) : RepKs K H O (storedH xs k b u) (putD kvs dk k dv) := by
  unfold storedH putD
  rw [← (h.look (k := k)).1]
  split
  · exact h.repl ru rv
  · exact h.app (.cons r ek ru rv .nil)
theorem RepKs.hash : ∀ {xs kvs}, RepKs K H O xs kvs → ∀ w w' : World, ∀ x ∈ xs, x.1.hash w = x.1.hash w'
  | _, _, .nil, _, _, x, hx => by cases hx
  | _, _, .cons r ek ru rv t, w, w', x, hx => by
    rcases List.mem_cons.mp hx with e | e
    · rw [e]; exact keyD_hash ek w w'
    · exact t.hash w w' x e
end
theorem dictAt_of {P : Program} {w : World} {h : Heap} {a : Addr} {xs : List (NestedKey × Addr × Value)} (hd : (a == sysModules) = false) (x : h.DictOfH (nestedKind P w) a xs) (hh : ∀ w w' : World, ∀ x ∈ xs, x.1.hash w = x.1.hash w') : ∃ ob, DictAt a ob xs h := by
  obtain ⟨o, es, ep, h1, h2, h3, h4, _⟩ := x
  refine ⟨o, hd, h1, h2, es, ep, h3, fun w' => ?_⟩
  rw [h4]
  refine List.map_congr_left fun x hx => ?_
  show (⟨x.1.hash w, .ref x.2.1, x.2.2⟩ : DictEntry) = ⟨x.1.hash w', .ref x.2.1, x.2.2⟩
  rw [hh w w' x hx]
theorem dictAt_stab {a : Addr} {ob : Obj} {xs : List (NestedKey × Addr × Value)} (h1 h2 : Heap) (x : DictAt a ob xs h1) (k : ∀ o, h1.get? a = some o → h2.get? a = some o) : DictAt a ob xs h2 := by
  obtain ⟨hd, e, r⟩ := x
  exact ⟨hd, k _ e, r⟩
section
variable {X : Cx} {pins : List (Addr × Obj)} {σ : L2.St} {H : Hp} {O : Addr → Prop} {s : Shared} {a b : Addr} {ob : Obj} {xs : List (NestedKey × Addr × Value)} {kvs : List (D × D)} {A : Around} {E : Value → Shared → Prop}
/-- d[k] = v -/
theorem dct_put {d : D} {k : NestedKey} {dv : D} {v : V} {r : Value} {Q : Unit → Shared → Prop} (hu : A.units + 65 < cLine) (I : Inv X pins σ H s) (e : H a = some (.ext (DictAt a ob xs))) (rk : RepKs X.K H O xs kvs) (hk : keysOk kvs = true) (nd : (xs.map (·.1)).Nodup) (hz : xs.length ≤ sizeLine)
    (rd : Rep X.K H O (.ref b) d) (kt : keyT d = some k) (rv : RelV v r) (rv2 : Rep X.K H O v dv) (h : ∀ ob2 s', (storedH xs k b r).map (·.1) |>.Nodup → Inv X pins σ (upd H a (.ext (DictAt a ob2 (storedH xs k b r)))) s' → Q () s') :
    wpAny (model X.prog X.w) A (setItem (.ref a) (.ref b) r) Q E s := by
  obtain ⟨h1, h2⟩ := dict_of I e rk hk nd
  obtain ⟨k1, k2, _⟩ := keyT_ok kt
  refine wpAny_setItem_heap (knd := nestedKind X.prog X.w) (hsz := hz) (room8 hu) ⟨nested_of I rd k1 rfl, k2⟩ h2 fun h' dd' hs => ?_
  have rk2 := rk.put rd k1 rv rv2
  obtain ⟨ob2, da2⟩ := dictAt_of h1 dd' rk2.hash
  have dd2 := dd'
  obtain ⟨q, es, ep, hq, _, _, _, _, hnd⟩ := dd2
  exact h ob2 _ hnd (d_write I (by rw [e]; exact True.intro) hs ⟨q, hq⟩ ⟨da2, ⟨q, hq⟩, dictAt_stab⟩)
end
end PP

namespace PP
open PySem PySem.Spec PyProof.Rows L2
open Res (ok exc bad)
section
variable {K : PySem.W.Frag} {H : Hp} {O : Addr → Prop} {v : V}
theorem RepB.dct {kvs : List (D × D)} (h : RepB K H O v (.dct kvs)) : ∃ a ob xs, v = .ref a ∧ H a = some (.ext (DictAt a ob xs)) ∧ xs.length ≤ sizeLine ∧ (xs.map (·.1)).Nodup ∧ RepKs K H O xs kvs := by
  rcases h with h | ⟨a, e, h⟩
  · cases h with
    | dct h n z q r => exact ⟨_, _, _, rfl, h, z, q, r⟩
  · obtain ⟨ob, xs, h1, h2, h3, h4⟩ := h
    exact ⟨a, ob, xs, e, h1, h2, h3, h4⟩
theorem RepB.tupR {xs : List D} (h : RepB K H O v (.tup xs)) : Rep K H O v (.tup xs) := by
  rcases h with h | ⟨a, e, h⟩
  · exact h
  · exact h.elim
theorem Rep.refT {xs : List D} (h : Rep K H O v (.tup xs)) : ∃ b, v = .ref b := by
  cases h
  exact ⟨_, rfl⟩
end
/-! ### in, not in, d[k] -/
def dInD (neg : Bool) (d : D) (kvs : List (D × D)) : Option D := (keyT d).bind fun k => if keysOk kvs then some (.bl (neg ^^ (lookD kvs k).isSome)) else none
def dInX : D → D → Option D
  | d, .dct kvs => dInD false d kvs
  | d, e => dIn d e
def dNotInX : D → D → Option D
  | d, .dct kvs => dInD true d kvs
  | d, e => dNotIn d e
def rInX (K : PySem.W.Frag) : R2 := fun x y H Q => rInA K x y H Q ∨ rInDct K false x y H Q
def rNotInX (K : PySem.W.Frag) : R2 := fun x y H Q => rNotInA K x y H Q ∨ rInDct K true x y H Q
section
variable {X : Cx}
theorem op_inX (hu : X.A.units + 65 < cLine) : OpR X (compareOp .In) (rInX X.K) := (op_inA hu).or (op_inDct hu)
theorem op_notInX (hu : X.A.units + 65 < cLine) : OpR X (compareOp .NotIn) (rNotInX X.K) := (op_notInA hu).or (op_notInDct hu)
end
theorem inD_go {K : PySem.W.Frag} {H : Hp} {O : Addr → Prop} {x y : V} {dx : D} {kvs : List (D × D)} {neg : Bool} {Q : VK} (rx : RepB K H O x dx) (ry : RepB K H O y (.dct kvs)) (q : VP K H O Q (dInD neg dx kvs)) : rInDct K neg x y H Q := by
  unfold dInD at q
  cases kt : keyT dx with
  | none => rw [kt] at q; exact q.elim
  | some k =>
    rw [kt] at q
    by_cases hk : keysOk kvs = true
    · rw [Option.bind_some, if_pos hk] at q
      obtain ⟨_, _, xs, rfl⟩ := keyT_ok kt
      have rx' := rx.tupR
      obtain ⟨b, rfl⟩ := rx'.refT
      obtain ⟨a, ob, es, rfl, e1, e2, e3, e4⟩ := ry.dct
      exact ⟨b, a, ob, es, kvs, _, k, O, rfl, rfl, e1, e4, hk, e3, rx', kt, q _ H (Same.refl H) (.bl _)⟩
    · rw [Option.bind_some, if_neg hk] at q
      exact q.elim
theorem o_inX {K : PySem.W.Frag} : Op2 K (rInX K) dInX := by
  intro H O x y dx dy Q dm rx ry q
  cases dy with
  | dct kvs => exact .inr (inD_go rx ry q)
  | _ => exact .inl (o_in H O x y dx _ Q dm rx ry q)
theorem o_notInX {K : PySem.W.Frag} : Op2 K (rNotInX K) dNotInX := by
  intro H O x y dx dy Q dm rx ry q
  cases dy with
  | dct kvs => exact .inr (inD_go rx ry q)
  | _ => exact .inl (o_notIn H O x y dx _ Q dm rx ry q)
def dIxX : D → D → Option D
  | .dct kvs, d => (keyT d).bind fun k => if keysOk kvs then lookD kvs k else none
  | a, b => dIx a b
def rIxX (K : PySem.W.Frag) : R2 := fun x y H Q => rIx K x y H Q ∨ rIxDct K x y H Q
theorem ix_any {X : Cx} (hu : X.A.units + 65 < cLine) : IxR X (rIxX X.K) := ix_seq.or (ix_dct hu)
theorem o_ixX {K : PySem.W.Frag} : Op2 K (rIxX K) dIxX := by
  intro H O x y dx dy Q dm rx ry q
  cases dx with
  | dct kvs =>
    have q' : VP K H O Q ((keyT dy).bind fun k => if keysOk kvs then lookD kvs k else none) := q
    cases kt : keyT dy with
    | none => rw [kt] at q'; exact q'.elim
    | some k =>
      rw [kt, Option.bind_some] at q'
      by_cases hk : keysOk kvs = true
      · rw [if_pos hk] at q'
        cases lk : lookD kvs k with
        | none => rw [lk] at q'; exact q'.elim
        | some dv =>
          rw [lk] at q'
          obtain ⟨_, _, xs, rfl⟩ := keyT_ok kt
          have ry' := ry.tupR
          obtain ⟨b, rfl⟩ := ry'.refT
          obtain ⟨a, ob, es, rfl, e1, e2, e3, e4⟩ := rx.dct
          exact .inr ⟨b, a, ob, es, kvs, _, k, dv, O, rfl, rfl, e1, e4, hk, e3, ry', kt, lk, fun v r => q' v H (Same.refl H) r⟩
      · rw [if_neg hk] at q'
        exact q'.elim
  | _ => exact .inl (o_ix H O x y _ dy Q dm rx ry q)
/-! ### {} -/
theorem en_dnew {X : Cx} {E : EX} {pos : Pos} : EN X E (.Dict [] [] pos) (mC (.dct [])) := ⟨fun pins s σ H Q I ⟨ρ, O, F, st, p⟩ => by
  have hb := I.big
  refine wpAny_Dict_empty ⟨.ref s.heap.objs.size, _, I.laid (a := s.heap.objs.size) (o := .ext (DictAt s.heap.objs.size { cls := .type "dict", data := .dict #[] } [])) (t' := s.toks) (fun _ _ q => Heap.get?_push_of_some _ q) (Nat.le_refl _) ⟨⟨beq_eq_false_iff_ne.mpr (Ne.symm (Nat.ne_of_lt hb)), Heap.get?_push_size _ rfl, ⟨rfl, rfl, rfl⟩, #[], 0, rfl, fun _ => rfl⟩, ⟨_, Heap.get?_push_size _ rfl⟩, dictAt_stab⟩, rfl, ?_⟩
  have fr := I.hok.fresh (Nat.le_refl s.heap.objs.size)
  exact p _ _ _ (same_new fr) fr ⟨rfl, .inr rfl, _, [], upd_same, Nat.zero_le _, List.nodup_nil, .nil⟩⟩
/-! ### d[k] = v, d in slot i -/
def sPut (i : Nat) (f g : Sls → Res D) : Sls → Fl := fun ρ => match ρ[i]? with
  | some (.ow (.dct kvs)) => thenF (g ρ) ρ fun dv => thenF (f ρ) ρ fun dk => (match keyT dk with
    | some k => if keysOk kvs = true ∧ kvs.length < sizeLine then .nx (ρ.set i (.ow (.dct (putD kvs dk k dv)))) else .bad
    | none => .bad)
  | _ => .bad
theorem putD_len (kvs : List (D × D)) (dk : D) (k : NestedKey) (dv : D) : (putD kvs dk k dv).length ≤ kvs.length + 1 := by
  unfold putD
  split
  · rw [List.length_map]; omega
  · rw [List.length_append]; simp
def rPut (K : PySem.W.Frag) (x y v : V) (H : Hp) (P : Hp → Prop) : Prop := ∃ a b ob xs kvs d k dv Z, x = V.ref a ∧ y = V.ref b ∧ H a = some (.ext (DictAt a ob xs)) ∧ RepKs K H Z xs kvs ∧ keysOk kvs = true ∧ (xs.map (·.1)).Nodup ∧ xs.length ≤ sizeLine ∧ Rep K H Z (.ref b) d ∧ keyT d = some k ∧ Rep K H Z v dv ∧
  ∀ u ob2, RelV v u → ((storedH xs k b u).map (·.1)).Nodup → P (upd H a (.ext (DictAt a ob2 (storedH xs k b u))))
def tPut (K : PySem.W.Frag) (td ty tv : TE) : TS := fun D σ H => tv σ H fun v H1 => td σ H1 fun x H2 => ty σ H2 fun y H3 => rPut K x y v H3 fun H4 => D.nx σ H4
theorem ps_put {X : Cx} {o i value : Expr} {pos pos' : Pos} {td ty tv : TE} (hu : X.A.units + 65 < cLine) (ho : PE X o td) (hi : PE X i ty) (hv : PE X value tv) (hs : swapsWith value (some (.Subscript o i pos')) pos.line X.env = pure false) :
    PS X (.Assign [.Subscript o i pos'] value pos) (tPut X.K td ty tv) := by
  refine ⟨fun pins s σ H D I h => ?_⟩
  refine wpAny_Assign_Subscript (thn (hv.run pins s σ H _ I h) fun r s1 ⟨v, H1, I1, rv, q1⟩ => thn (ho.run pins s1 σ H1 _ I1 q1) fun u s2 ⟨x, H2, I2, rx, q2⟩ => thn (hi.run pins s2 σ H2 _ I2 q2) fun iv s3 ⟨y, H3, I3, ry, a, b, ob, xs, kvs, d, k, dv, Z, ex, ey, e, rk, hk, nd, hz, rd, kt, rv2, q3⟩ => ?_) hs
  subst ex ey
  obtain rfl : u = Value.ref a := rx
  obtain rfl : iv = Value.ref b := ry
  exact dct_put hu I3 e rk hk nd hz rd kt rv rv2 fun ob2 s4 hn I4 => ⟨σ, _, I4, q3 r ob2 rv hn⟩
theorem put_reads {Kf : PySem.W.Frag} {E : EX} {i : Nat} {f g : Sls → Res D} {D' : Ends} {σ : L2.St} {H : Hp} (hq : tSS Kf E (sPut i f g) D' σ H) : tPut Kf (tVar i) (tEF Kf E f) (tEF Kf E g) D' σ H := by
  obtain ⟨ρ, O, F, s, p⟩ := hq
  unfold sPut at p
  split at p
  · rename_i kvs e
    obtain ⟨a, e1, hF, hO, ob, xs, h1, h2, h3, h4⟩ := s.st.getO e
    refine ⟨ρ, O, F, s, (FP.po s p).imp fun dv p1 v H1 eH rv => ?_⟩
    have s1 := s.same eH
    have p2 := FP.later s (Tr.same eH) p1
    refine ⟨_, e1, ρ, O, F, s1, (FP.po s1 p2).imp fun dk p3 y H2 eH2 ry => ?_⟩
    have s2 := s1.same eH2
    cases kt : keyT dk with
    | none => rw [kt] at p3; exact p3.elim
    | some k =>
      rw [kt] at p3
      by_cases hc : keysOk kvs = true ∧ kvs.length < sizeLine
      · simp only [] at p3
        rw [if_pos hc] at p3
        obtain ⟨k1, k2, ts, rfl⟩ := keyT_ok kt
        obtain ⟨b, rfl⟩ := ry.refT
        have ea : H2 a = some (.ext (DictAt a ob xs)) := eH2 _ _ (eH _ _ h1)
        have hT : NoTup H2 a := fun ys r => by rcases r with r | ⟨o, r⟩ <;> (rw [ea] at r; cases r)
        have rk2 := (h4.same eH).same eH2
        have rv2 := rv.same eH2
        refine ⟨a, b, ob, xs, kvs, _, k, dv, O, rfl, rfl, ea, rk2, hc.1, h3, h2, ry, kt, rv2, fun u ob2 ru hn => ?_⟩
        have rk3 := rk2.put ry k1 ru rv2
        have hl : (storedH xs k b u).length ≤ sizeLine := by
          rw [rk3.length]
          have := putD_len kvs (.tup ts) k dv
          omega
        have hk : RepK Kf (upd H2 a (.ext (DictAt a ob2 (storedH xs k b u)))) O a (.dct (putD kvs (.tup ts) k dv)) := ⟨_, _, upd_same, hl, hn, rk3.upd hO hT⟩
        have st2 := RSt.updAt hO hT hk e e1 s2.st
        refine p3 _ _ O F ⟨st2, fun b hb => ?_⟩ ⟨fun b o q n => ?_, fun b hb => .inl hb, fun b hb => .inl hb, fun b hb => .inl hb⟩
        · by_cases hba : b = a
          · subst hba
            exact ⟨by rw [upd_same]; exact fun z => (nomatch z), fun ys r => by rcases r with r | ⟨o, r⟩ <;> (rw [upd_same] at r; cases r)⟩
          · obtain ⟨d1, d2⟩ := s2.dom b hb
            exact ⟨by rw [upd_ne hba]; exact d1, fun xs q => d2 xs (by rcases q with q | ⟨o, q⟩ <;> rw [upd_ne hba] at q; exact .inl q; exact .inr ⟨o, q⟩)⟩
        · rw [upd_ne (fun z => n (by rw [z]; exact hF))]
          exact eH2 _ _ q
      · simp only [] at p3
        rw [if_neg hc] at p3
        exact p3.elim
  · exact p.elim
theorem ss_put (i : Nat) {X : Cx} {E : EX} {x : Str} {e1 e2 : Expr} {f g : Sls → Res D} {px pos' pos : Pos} (hu : X.A.units + 65 < cLine) (hk : EF X E e1 f) (hv : EF X E e2 g) (hN : X.N[i]? = some x := by rfl) (hvx : Vis X.env.scope x := by first | exact Or.inl rfl | exact Or.inr (Or.inl rfl) | exact Or.inr (Or.inr rfl))
    (hd : (x == ("__debug__" : Str)) = false := by decide) (hcd : (x == ("__classdict__" : Str)) = false := by decide) (hs : swapsWith e2 (some (.Subscript (.Name x px) e1 pos')) pos.line X.env = pure false := by rfl) :
    SS X E (.Assign [.Subscript (.Name x px) e1 pos'] e2 pos) (sPut i f g) :=
  ps_imp (ps_put hu (pe_var hN hvx hd hcd) hk hv hs) fun D σ H hq => put_reads hq
end PP

namespace PP
open PySem PySem.Spec PyProof.Rows L2
open Res (ok exc bad)
abbrev B3 := V × D × PyData
def rSortedD (K : PySem.W.Frag) : List V → Hp → VK → Prop := fun vs H Q => ∃ (a : Addr) (bs : List B3), vs = [V.ref a] ∧ SqL K H a (bs.map (·.1)) ∧ (∀ b ∈ bs, Dp K H b.1 b.2.2) ∧ PySem.W.AllAlike (bs.map (·.2.2)) ∧ PySem.W.Sortable (bs.map (·.2.2)) ∧ (∀ b ∈ bs, b.2.2.depth ≤ 60) ∧
  ∀ p, H p = none → Q (.ref p) (upd H p (.lst ((bs.mergeSort (PySem.W.dataLe false (·.2.2))).map (·.1))))
section
variable {X : Cx} {pins : List (Addr × Obj)} {σ : L2.St} {H : Hp} {s : Shared}
theorem each_reads (I : Inv X pins σ H s) : ∀ {bs : List B3} {its : List Value}, Vals (bs.map (·.1)) its → (∀ b ∈ bs, Dp X.K H b.1 b.2.2) → PySem.W.EachIs (fun v (b : B3) => RelV b.1 v) its bs ∧ PySem.W.EachIs (fun v (b : B3) => ∃ as, Reads s.heap v b.2.2 as) its bs
  | [], _, .nil, _ => ⟨.nil, .nil⟩
  | b :: bs, _, .cons r t, h => by
    obtain ⟨i1, i2⟩ := each_reads I t fun x hx => h x (by simp [hx])
    exact ⟨.cons r i1, .cons (Dp.reads I b.2.2 b.1 _ (h b (by simp)) r) i2⟩
theorem each_vals : ∀ {bs : List B3} {its : List Value}, PySem.W.EachIs (fun v (b : B3) => RelV b.1 v) its bs → Vals (bs.map (·.1)) its
  | _, _, .nil => .nil
  | _, _, .cons r t => .cons r (each_vals t)
theorem cr_sortedD (hu : X.A.units + 65 < cLine) : CallR X (.builtin "sorted") (rSortedD X.K) := by
  intro pins s σ H vs us Q I r h
  obtain ⟨a, bs, rfl, hs, hd, h1, h2, h3, q⟩ := h
  obtain ⟨its, rv, hl, hz⟩ := I.list hs
  rw [Vals.ref1 r]
  obtain ⟨e1, e2⟩ := each_reads I rv hd
  rw [List.length_map] at hz
  refine PySem.W.sorted_data (enc := fun b : B3 => b.2.2) hl.isList e1 e2 h1 h2 hz (fun b hb => by have := h3 b hb; omega) fun out ho eo => ?_
  obtain ⟨ep, he'⟩ := PyProof.Rows.sortedAll_at s.heap its out.toArray
  have rv2 := each_vals eo
  have hlen : ((bs.mergeSort (PySem.W.dataLe false fun b : B3 => b.2.2)).map (·.1)).length ≤ sizeLine := by rw [List.length_map, List.length_mergeSort]; exact hz
  exact ⟨.ref _, upd H (s.heap.objs.size + 1) (.lst ((bs.mergeSort (PySem.W.dataLe false fun b : B3 => b.2.2)).map (·.1))), I.laid (t' := s.toks) (fun _ _ => PyProof.Rows.sortedAll_old) (Nat.le_succ _) ⟨hlen, out, ep, rv2, he'⟩, rfl, q _ (I.hok.fresh (Nat.le_succ _))⟩
end
/-! ### what it answers -/
def tup1 : PyData → Bool
  | .tuple (_ :: _) => true
  | _ => false
def noTupN : PyData → Bool
  | .tuple _ => false
  | .none => false
  | _ => true
def sortOk (ps : List PyData) : Bool := (ps.all fun d => ps.all fun d' => PySem.W.alike d d') && (ps.all tup1 || ps.all noTupN) && ps.all fun d => decide (d.depth ≤ 60)
def sortD (ds : List D) (ps : List PyData) : List D := ((ds.zip ps).mergeSort (PySem.W.dataLe false fun b : D × PyData => b.2)).map (·.1)
def dSorted : List D → Option D
  | [.lst ds] => (toPDs ds).bind fun ps => if sortOk ps then some (.lst (sortD ds ps)) else none
  | [.kl ds] => (toPDs ds).bind fun ps => if sortOk ps then some (.lst (sortD ds ps)) else none
  | _ => none
theorem zip3 {K : PySem.W.Frag} {H : Hp} {O : Addr → Prop} : ∀ {vs : List V} {ds : List D} {ps : List PyData}, Reps K H O vs ds → toPDs ds = some ps → ∃ bs : List B3, bs.map (·.1) = vs ∧ bs.map (·.2) = ds.zip ps ∧ bs.map (·.2.2) = ps ∧ ∀ b ∈ bs, Dp K H b.1 b.2.2 ∧ Rep K H O b.1 b.2.1
  | _, _, ps, .nil, e => by
    simp [toPDs] at e
    subst e
    exact ⟨[], rfl, rfl, rfl, fun _ h => by simp at h⟩
  | _, _, ps, .cons (v := v) (d := d) r t, e => by
    simp only [toPDs, Option.bind_eq_some_iff, Option.map_eq_some_iff] at e
    obtain ⟨p, e1, qs, e2, rfl⟩ := e
    obtain ⟨bs, b1, b2, b3, b4⟩ := zip3 t e2
    refine ⟨(v, d, p) :: bs, by simp [b1], by simp [b2], by simp [b3], fun b hb => ?_⟩
    rcases List.mem_cons.mp hb with e | e
    · rw [e]; exact ⟨r.dp e1, r⟩
    · exact b4 b e
theorem reps_of {K : PySem.W.Frag} {H : Hp} {O : Addr → Prop} : ∀ {bs : List B3}, (∀ b ∈ bs, Rep K H O b.1 b.2.1) → Reps K H O (bs.map (·.1)) (bs.map (·.2.1))
  | [], _ => .nil
  | b :: bs, h => .cons (h b (by simp)) (reps_of fun x hx => h x (by simp [hx]))
theorem sortOk_ok {ps : List PyData} (h : sortOk ps = true) : PySem.W.AllAlike ps ∧ PySem.W.Sortable ps ∧ ∀ d ∈ ps, d.depth ≤ 60 := by
  unfold sortOk at h
  simp only [Bool.and_eq_true, Bool.or_eq_true, List.all_eq_true, decide_eq_true_eq] at h
  obtain ⟨⟨h1, h2⟩, h3⟩ := h
  refine ⟨fun d hd d' hd' => h1 d hd d' hd', ?_, h3⟩
  rcases h2 with h2 | h2
  · refine .inl fun d hd => ?_
    have := h2 d hd
    unfold tup1 at this
    split at this
    · exact ⟨_, _, rfl⟩
    · cases this
  · refine .inr fun d hd => ?_
    have := h2 d hd
    unfold noTupN at this
    split at this
    · cases this
    · cases this
    · rename_i z1 z2
      exact ⟨z2, z1⟩
theorem sorted_go {K : PySem.W.Frag} {H : Hp} {O : Addr → Prop} {a : Addr} {vs : List V} {ds : List D} {Q : VK} (hs : SqL K H a vs) (hz : vs.length ≤ sizeLine) (r : Reps K H O vs ds) (q : VN K H O Q ((toPDs ds).bind fun ps => if sortOk ps then some (.lst (sortD ds ps)) else none)) (dm : Dom H O) : rSortedD K [.ref a] H Q := by
  cases e : toPDs ds with
  | none => rw [e] at q; exact q.elim
  | some ps =>
    rw [e, Option.bind_some] at q
    by_cases hk : sortOk ps = true
    · rw [if_pos hk] at q
      obtain ⟨h1, h2, h3⟩ := sortOk_ok hk
      obtain ⟨bs, b1, b2, b3, b4⟩ := zip3 r e
      refine ⟨a, bs, rfl, by rw [b1]; exact hs, fun b hb => (b4 b hb).1, by rw [b3]; exact h1, by rw [b3]; exact h2, fun b hb => h3 _ (by rw [← b3]; exact List.mem_map.mpr ⟨b, hb, rfl⟩), fun p np => q _ p _ (same_new np) np ?_⟩
      have el : sortD ds ps = (bs.mergeSort (PySem.W.dataLe false fun b : B3 => b.2.2)).map (·.2.1) := by
        unfold sortD
        have z := List.map_mergeSort (r := PySem.W.dataLe false fun b : B3 => b.2.2) (s := PySem.W.dataLe false fun b : D × PyData => b.2) (f := fun b : B3 => b.2) (l := bs) (fun _ _ _ _ => rfl)
        rw [← b2, ← z, List.map_map]
        rfl
      rw [el]
      refine RepN.newL np ?_ (reps_of fun b hb => (b4 b (List.mem_mergeSort.mp hb)).2)
      rw [List.length_map, List.length_mergeSort]
      have : bs.length = vs.length := by rw [← b1, List.length_map]
      omega
    · rw [if_neg hk] at q
      exact q.elim
theorem c_sortedD {K : PySem.W.Frag} : Cl1N K (rSortedD K) dSorted := by
  intro H O vs ds Q dm r q
  unfold dSorted at q
  split at q
  · obtain ⟨v, rfl, rv⟩ := r.one
    obtain ⟨a, xs, rfl, h1, h2, h3⟩ := rv.lst
    exact sorted_go h1 h2 h3 q dm
  · obtain ⟨v, rfl, rv⟩ := r.one
    obtain ⟨a, xs, rfl, h1, h2, h3⟩ := rv.kl
    exact sorted_go h1 h2 h3 q dm
  · exact q.elim
end PP

namespace PP
open PySem PySem.Spec PyProof.Rows L2
open Res (ok exc bad)
/-! ### <, <=, >, >= of nested data that are alike -/
abbrev dlt' : PyData → PyData → Bool := PySem.W.dataLt
def cLt (p q : PyData) : Bool := PySem.W.dataLt p q
def cGt (p q : PyData) : Bool := PySem.W.dataLt q p
def cLe (p q : PyData) : Bool := !PySem.W.dataLt q p
def cGe (p q : PyData) : Bool := !PySem.W.dataLt p q
def rCmpD (K : PySem.W.Frag) (f : PyData → PyData → Bool) : R2 := fun x y H Q => ∃ p q, Dp K H x p ∧ Dp K H y q ∧ PySem.W.alike p q = true ∧ p ≠ .none ∧ p.depth ≤ 60 ∧ Q (.bl (f p q)) H
section
variable {X : Cx}
theorem room60 {u p q : Nat} (hu : u + 65 < cLine) (hp : p ≤ 60) : u + min p q < cLine := by
  have := Nat.min_le_left p q
  omega
theorem op_ltD (hu : X.A.units + 65 < cLine) : OpR X (compareOp .Lt) (rCmpD X.K cLt) := by
  intro pins s σ H x y v u Q I rx ry h
  obtain ⟨p, q, hp, hq, h1, h2, h3, k⟩ := h
  obtain ⟨as, r1⟩ := Dp.reads I p x v hp rx
  obtain ⟨bs, r2⟩ := Dp.reads I q y u hq ry
  exact PySem.W.lt_data r1 r2 h1 h2 (room60 hu h3) ⟨.bl _, H, I, rfl, k⟩
theorem op_gtD (hu : X.A.units + 65 < cLine) : OpR X (compareOp .Gt) (rCmpD X.K cGt) := by
  intro pins s σ H x y v u Q I rx ry h
  obtain ⟨p, q, hp, hq, h1, h2, h3, k⟩ := h
  obtain ⟨as, r1⟩ := Dp.reads I p x v hp rx
  obtain ⟨bs, r2⟩ := Dp.reads I q y u hq ry
  exact PySem.W.gt_data r1 r2 h1 h2 (room60 hu h3) ⟨.bl _, H, I, rfl, k⟩
theorem op_leD (hu : X.A.units + 65 < cLine) : OpR X (compareOp .LtE) (rCmpD X.K cLe) := by
  intro pins s σ H x y v u Q I rx ry h
  obtain ⟨p, q, hp, hq, h1, h2, h3, k⟩ := h
  obtain ⟨as, r1⟩ := Dp.reads I p x v hp rx
  obtain ⟨bs, r2⟩ := Dp.reads I q y u hq ry
  exact PySem.W.le_data r1 r2 h1 h2 (room60 hu h3) ⟨.bl _, H, I, rfl, k⟩
theorem op_geD (hu : X.A.units + 65 < cLine) : OpR X (compareOp .GtE) (rCmpD X.K cGe) := by
  intro pins s σ H x y v u Q I rx ry h
  obtain ⟨p, q, hp, hq, h1, h2, h3, k⟩ := h
  obtain ⟨as, r1⟩ := Dp.reads I p x v hp rx
  obtain ⟨bs, r2⟩ := Dp.reads I q y u hq ry
  exact PySem.W.ge_data r1 r2 h1 h2 (room60 hu h3) ⟨.bl _, H, I, rfl, k⟩
end
def isNone : PyData → Bool
  | .none => true
  | _ => false
def cmpD (f : PyData → PyData → Bool) (a b : D) : Option D := (toPD a).bind fun p => (toPD b).bind fun q => if PySem.W.alike p q && !isNone p && decide (p.depth ≤ 60) then some (.bl (f p q)) else none
def dLtX : D → D → Option D
  | .int i, .int j => some (.bl (decide (i < j)))
  | a, b => cmpD cLt a b
def dGtX : D → D → Option D
  | .int i, .int j => some (.bl (decide (j < i)))
  | a, b => cmpD cGt a b
def dLeX : D → D → Option D
  | .int i, .int j => some (.bl (decide (i ≤ j)))
  | a, b => cmpD cLe a b
def dGeX : D → D → Option D
  | .int i, .int j => some (.bl (decide (j ≤ i)))
  | a, b => cmpD cGe a b
theorem cmpD_go {K : PySem.W.Frag} {H : Hp} {O : Addr → Prop} {x y : V} {dx dy : D} {f : PyData → PyData → Bool} {Q : VK} (rx : RepB K H O x dx) (ry : RepB K H O y dy) (q : VP K H O Q (cmpD f dx dy)) : rCmpD K f x y H Q := by
  unfold cmpD at q
  cases e1 : toPD dx with
  | none => rw [e1] at q; exact q.elim
  | some p =>
    rw [e1, Option.bind_some] at q
    cases e2 : toPD dy with
    | none => rw [e2] at q; exact q.elim
    | some p2 =>
      rw [e2, Option.bind_some] at q
      by_cases c : (PySem.W.alike p p2 && !isNone p && decide (p.depth ≤ 60)) = true
      · rw [if_pos c] at q
        simp only [Bool.and_eq_true, decide_eq_true_eq, Bool.not_eq_true'] at c
        exact ⟨p, p2, rx.dp e1, ry.dp e2, c.1.1, fun z => by rw [z] at c; exact absurd c.1.2 (by decide), c.2, q _ H (Same.refl H) (.bl _)⟩
      · rw [if_neg c] at q
        exact q.elim
def rLtX (K : PySem.W.Frag) : R2 := fun x y H Q => rI0 (fun i j => .bl (decide (i < j))) x y H Q ∨ rCmpD K cLt x y H Q
def rGtX (K : PySem.W.Frag) : R2 := fun x y H Q => rI0 (fun i j => .bl (decide (j < i))) x y H Q ∨ rCmpD K cGt x y H Q
def rLeX (K : PySem.W.Frag) : R2 := fun x y H Q => rI0 (fun i j => .bl (decide (i ≤ j))) x y H Q ∨ rCmpD K cLe x y H Q
def rGeX (K : PySem.W.Frag) : R2 := fun x y H Q => rI0 (fun i j => .bl (decide (j ≤ i))) x y H Q ∨ rCmpD K cGe x y H Q
section
variable {X : Cx}
theorem op_ltX (hu : X.A.units + 65 < cLine) : OpR X (compareOp .Lt) (rLtX X.K) := op_lt.or (op_ltD hu)
theorem op_gtX (hu : X.A.units + 65 < cLine) : OpR X (compareOp .Gt) (rGtX X.K) := op_gt.or (op_gtD hu)
theorem op_leX (hu : X.A.units + 65 < cLine) : OpR X (compareOp .LtE) (rLeX X.K) := op_le.or (op_leD hu)
theorem op_geX (hu : X.A.units + 65 < cLine) : OpR X (compareOp .GtE) (rGeX X.K) := op_ge.or (op_geD hu)
end
section
variable {K : PySem.W.Frag}
theorem o_ltX : Op2 K (rLtX K) dLtX := by
  intro H O x y dx dy Q dm rx ry q
  unfold dLtX at q
  split at q
  · exact .inl (o_lt H O x y _ _ Q dm rx ry q)
  · exact .inr (cmpD_go rx ry q)
theorem o_gtX : Op2 K (rGtX K) dGtX := by
  intro H O x y dx dy Q dm rx ry q
  unfold dGtX at q
  split at q
  · exact .inl (o_gt H O x y _ _ Q dm rx ry q)
  · exact .inr (cmpD_go rx ry q)
theorem o_leX : Op2 K (rLeX K) dLeX := by
  intro H O x y dx dy Q dm rx ry q
  unfold dLeX at q
  split at q
  · exact .inl (o_le H O x y _ _ Q dm rx ry q)
  · exact .inr (cmpD_go rx ry q)
theorem o_geX : Op2 K (rGeX K) dGeX := by
  intro H O x y dx dy Q dm rx ry q
  unfold dGeX at q
  split at q
  · exact .inl (o_ge H O x y _ _ Q dm rx ry q)
  · exact .inr (cmpD_go rx ry q)
end
/-! ### is, is not with a truth value -/
def dIsX : D → D → Option D
  | .bl a, .bl b => some (.bl (decide (a = b)))
  | a, b => dIsN a b
def dNotX : D → D → Option D
  | .bl a, .bl b => some (.bl (!decide (a = b)))
  | a, b => dNotN a b
def rBl (f : Bool → Bool → Bool) : R2 := fun x y H Q => ∃ a b, x = .bl a ∧ y = .bl b ∧ Q (.bl (f a b)) H
def rIsX : R2 := fun x y H Q => (∃ a b, x = .bl a ∧ y = .bl b ∧ Q (.bl (decide (a = b))) H) ∨ rIsN x y H Q
def rNotX : R2 := fun x y H Q => (∃ a b, x = .bl a ∧ y = .bl b ∧ Q (.bl (!decide (a = b))) H) ∨ rNotN x y H Q
theorem op_isX {X : Cx} : OpR X (compareOp .Is) rIsX := op_is_bl.or op_isN
theorem op_notX {X : Cx} : OpR X (compareOp .IsNot) rNotX := op_isnot_bl.or op_notN
theorem o_isX {K : PySem.W.Frag} : Op2 K rIsX dIsX := by
  intro H O x y dx dy Q dm rx ry q
  unfold dIsX at q
  split at q
  · exact .inl ⟨_, _, rx.bl, ry.bl, q _ H (Same.refl H) (.bl _)⟩
  · exact .inr (o_isN H O x y _ _ Q dm rx ry q)
theorem o_notX {K : PySem.W.Frag} : Op2 K rNotX dNotX := by
  intro H O x y dx dy Q dm rx ry q
  unfold dNotX at q
  split at q
  · exact .inl ⟨_, _, rx.bl, ry.bl, q _ H (Same.refl H) (.bl _)⟩
  · exact .inr (o_notN H O x y _ _ Q dm rx ry q)
/-! ### tuples (of tuples) of the module's top -/
mutual
def cB (K : PySem.W.Frag) : D → Value → Bool
  | .tup ds, .ref a => (match K.lookup a with
    | some ⟨.type c, _, .seq its _, _⟩ => decide (c = "tuple") && (decide (its.size ≤ sizeLine) && cBs K ds its.toList)
    | _ => false)
  | d, u => sB d u
def cBs (K : PySem.W.Frag) : List D → List Value → Bool
  | [], [] => true
  | d :: ds, u :: us => cB K d u && cBs K ds us
  | _, _ => false
end
mutual
theorem cB_ok {K : PySem.W.Frag} : ∀ {d : D} {u : Value}, cB K d u = true → ∃ v, RelV v u ∧ ∀ H O, Rep K H O v d := fun {d u} h => by
  unfold cB at h
  split at h
  · rename_i ds a
    split at h
    · rename_i c od its n sl q
      obtain ⟨h1, h2⟩ := He.ba h
      obtain ⟨h3, h4⟩ := He.ba h2
      obtain ⟨vs, b1, b2⟩ := cBs_ok (K := K) h4
      have h5 := of_decide_eq_true h3
      refine ⟨.ref a, rfl, fun H O => .tup (.inr ⟨_, its, n, q, congrArg Value.type (of_decide_eq_true h1), rfl, h5, b1⟩) ?_ (b2 H O)⟩
      rw [b1.length]
      simpa using h5
    · cases h
  · exact ⟨_, sB_ok (K := K) h⟩
termination_by d => sizeOf d
theorem cBs_ok {K : PySem.W.Frag} : ∀ {ds : List D} {us : List Value}, cBs K ds us = true → ∃ vs, Vals vs us ∧ ∀ H O, Reps K H O vs ds
  | [], [], _ => ⟨[], .nil, fun _ _ => .nil⟩
  | [], _ :: _, h => by cases h
  | _ :: _, [], h => by cases h
  | d :: ds, u :: us, h => by
    obtain ⟨h1, h2⟩ := He.ba (show (cB K d u && cBs K ds us) = true from h)
    obtain ⟨v, a1, a2⟩ := cB_ok (K := K) h1
    obtain ⟨vs, b1, b2⟩ := cBs_ok (K := K) h2
    exact ⟨v :: vs, .cons a1 b1, fun H O => .cons (a2 H O) (b2 H O)⟩
termination_by ds => sizeOf ds
end
/-- the module's name x is this tuple -/
def CTup (K : PySem.W.Frag) (x : Str) (d : D) : Prop := ∀ H O, Rep K H O (.ref (He.ga K x)) d
theorem ctup_of {K : PySem.W.Frag} {x : Str} {d : D} (h : cB K d (.ref (He.ga K x)) = true) : CTup K x d := fun H O => by
  obtain ⟨v, r, q⟩ := cB_ok h
  have e : v = .ref (He.ga K x) := by
    cases v with
    | ref b => cases r; rfl
    | _ => first | (cases r; done) | (obtain ⟨t, z⟩ := r; cases z; done)
  rw [← e]
  exact q H O
theorem ef_gtup {X : Cx} {E : EX} {x : Str} {d : D} {pos : Pos} (T : CTup X.K x d) (hm : X.mg x = some (.ref (He.ga X.K x))) (hg : Gl X x := by rfl) (hd : (x == ("__debug__" : Str)) = false := by decide) : EF X E (.Name x pos) (mC d) :=
  ef_c (pe_glob (v := .ref (He.ga X.K x)) hg hm rfl hd) fun H O => T H O
end PP

namespace PP
open PySem PySem.Spec PyProof.Rows L2
open Res (ok exc bad)
def sParFN (i j : Nat) (f g : Sls → Res D) : Sls → Fl := fun ρ => thenF (f ρ) ρ fun x => thenF (g ρ) ρ fun y => .nx ((ρ.set i (.fz x)).set j (.ow y))
def sParNN (i j : Nat) (f g : Sls → Res D) : Sls → Fl := fun ρ => thenF (f ρ) ρ fun x => thenF (g ρ) ρ fun y => .nx ((ρ.set i (.ow x)).set j (.ow y))
theorem same_none {H H1 : Hp} {a : Addr} (e : Same H H1) (n : H1 a = none) : H a = none := by
  cases q : H a with
  | none => rfl
  | some o => rw [e a o q] at n; cases n
section
variable {X : Cx} {E : EX} {f g : Sls → Res D}
theorem ss_parFN (i j : Nat) {x y : Str} {a b : Expr} {px py pt pos : Pos} {kt k2 pt2} (ha : EF X E a f) (hb : EN X E b g) (hc : X.calm = true) (hN : X.N.Nodup) (hi : X.N[i]? = some x := by rfl) (hj : X.N[j]? = some y := by rfl) (hij : i ≠ j := by decide)
    (hx : X.env.scope.names.lookup x = some .local := by rfl) (hy : X.env.scope.names.lookup y = some .local := by rfl)
    (hw : swappedStores [.Tuple [.Name x px, .Name y py] kt pt] (.Tuple [a, b] k2 pt2) X.env = pure (some [x, y]) := by rfl)
    (hs : swapsWithSole [.Tuple [.Name x px, .Name y py] kt pt] (.Tuple [a, b] k2 pt2) pos.line X.env = pure false := by rfl) (h1 : starEach [a, b] X.env = (false, eval a X.env) :: starEach [b] X.env := by rfl) (h2 : starEach [b] X.env = (false, eval b X.env) :: starEach [] X.env := by rfl) :
    SS X E (.Assign [.Tuple [.Name x px, .Name y py] kt pt] (.Tuple [a, b] k2 pt2) pos) (sParFN i j f g) :=
  ps_imp (ps_par hc hN hi hj hij hx hy (pa_cons ha (pa_cons hb pa_nil h2) h1) hw hs) fun D σ H ⟨ρ, O, F, s, p⟩ => ⟨ρ, O, F, s, (FP.po s p).imp fun dx p1 v H1 e1 r1 =>
    ⟨ρ, O, F, s.same e1, ((FP.po s p1).imp fun dy p2 u c H2 e2 n r2 => by
      have e12 := e1.trans e2
      have n0 := same_none e1 n
      have hk := r2.2.2
      have s2 := s.add e12 n0 hk.some hk.noTup
      have nF : c ∉ F := fun h => (s.st.owned c h).2 n0
      obtain ⟨F1, g1, g2⟩ := RSt.setF ((r1.more n).same e2) i s2.st
      obtain ⟨F2, g3, g4⟩ := RSt.setO r2 j (fun z => nF (g2 _ z)) g1
      exact ⟨v, u, rfl, p2 _ H2 (Ad O c) F2 ⟨g3, s2.dom⟩ ⟨fun b o q _ => e12 b o q, fun b hb => (g4 b hb).elim (fun z => .inr (by rw [z]; exact n0)) (fun z => .inl (g2 b z)), fun b hb => .inl (.inl hb), fun b hb => hb.imp id fun z => by rw [z]; exact n0⟩⟩).later e1⟩⟩
theorem ss_parNN (i j : Nat) {x y : Str} {a b : Expr} {px py pt pos : Pos} {kt k2 pt2} (ha : EN X E a f) (hb : EN X E b g) (hc : X.calm = true) (hN : X.N.Nodup) (hi : X.N[i]? = some x := by rfl) (hj : X.N[j]? = some y := by rfl) (hij : i ≠ j := by decide)
    (hx : X.env.scope.names.lookup x = some .local := by rfl) (hy : X.env.scope.names.lookup y = some .local := by rfl)
    (hw : swappedStores [.Tuple [.Name x px, .Name y py] kt pt] (.Tuple [a, b] k2 pt2) X.env = pure (some [x, y]) := by rfl)
    (hs : swapsWithSole [.Tuple [.Name x px, .Name y py] kt pt] (.Tuple [a, b] k2 pt2) pos.line X.env = pure false := by rfl) (h1 : starEach [a, b] X.env = (false, eval a X.env) :: starEach [b] X.env := by rfl) (h2 : starEach [b] X.env = (false, eval b X.env) :: starEach [] X.env := by rfl) :
    SS X E (.Assign [.Tuple [.Name x px, .Name y py] kt pt] (.Tuple [a, b] k2 pt2) pos) (sParNN i j f g) :=
  ps_imp (ps_par hc hN hi hj hij hx hy (pa_cons ha (pa_cons hb pa_nil h2) h1) hw hs) fun D σ H ⟨ρ, O, F, s, p⟩ => ⟨ρ, O, F, s, (FP.po s p).imp fun dx p1 v c1 H1 e1 n1 r1 => by
    have hk1 := r1.2.2
    have s1 := s.add e1 n1 hk1.some hk1.noTup
    have nF1 : c1 ∉ F := fun h => (s.st.owned c1 h).2 n1
    refine ⟨ρ, Ad O c1, F, s1, ((FP.po s p1).imp fun dy p2 u c2 H2 e2 n2 r2 => ?_).later e1⟩
    have hk2 := r2.2.2
    have s2 := s1.add e2 n2 hk2.some hk2.noTup
    have n02 := same_none e1 n2
    have nF2 : c2 ∉ F := fun h => (s1.st.owned c2 h).2 n2
    have ne : c2 ≠ c1 := fun z => by rw [z] at n2; exact hk1.some n2
    obtain ⟨F1, g1, g2⟩ := RSt.setO (v := v) (d := dx) (a := c1) ⟨r1.1, .inl (.inr rfl), (hk1.more n2).same e2⟩ i nF1 s2.st
    obtain ⟨F2, g3, g4⟩ := RSt.setO r2 j (fun z => (g2 _ z).elim ne nF2) g1
    exact ⟨v, u, rfl, p2 _ H2 (Ad (Ad O c1) c2) F2 ⟨g3, s2.dom⟩ ⟨fun b o q _ => (e1.trans e2) b o q, fun b hb => (g4 b hb).elim (fun z => .inr (by rw [z]; exact n02)) (fun z => (g2 b z).elim (fun y => .inr (by rw [y]; exact n1)) .inl), fun b hb => .inl (.inl (.inl hb)), fun b hb => hb.elim (fun h => h.imp id fun z => by rw [z]; exact n1) fun z => .inr (by rw [z]; exact n02)⟩⟩⟩
end
end PP

namespace PP
open PySem PySem.Spec PyProof.Rows L2
open Res (ok exc bad)
/-! ### len of a dict too -/
def rLenX (K : PySem.W.Frag) : List V → Hp → VK → Prop := fun xs H Q => (∃ x n, xs = [x] ∧ LenV K x H n ∧ Q (.int n) H) ∨ ∃ a ob es kvs Z, xs = [.ref a] ∧ H a = some (.ext (DictAt a ob es)) ∧ RepKs K H Z es kvs ∧ keysOk kvs = true ∧ (es.map (·.1)).Nodup ∧ es.length ≤ sizeLine ∧ Q (.int kvs.length) H
theorem CallR.or' {X : Cx} {f : Value} {r r' : List V → Hp → VK → Prop} (h : CallR X f r) (h' : CallR X f r') : CallR X f (fun xs H Q => r xs H Q ∨ r' xs H Q) := by
  intro pins s σ H xs us Q I rv q
  rcases q with q | q
  · exact h pins s σ H xs us Q I rv q
  · exact h' pins s σ H xs us Q I rv q
theorem call_lenD {X : Cx} : CallR X (.builtin "len") (fun xs H Q => ∃ a ob es kvs Z, xs = [.ref a] ∧ H a = some (.ext (DictAt a ob es)) ∧ RepKs X.K H Z es kvs ∧ keysOk kvs = true ∧ (es.map (·.1)).Nodup ∧ es.length ≤ sizeLine ∧ Q (.int kvs.length) H) := by
  intro pins s σ H xs us Q I r h
  obtain ⟨a, ob, es, kvs, Z, rfl, e, rk, hk, nd, hz, q⟩ := h
  obtain ⟨h1, h2⟩ := dict_of I e rk hk nd
  rw [Vals.ref1 r]
  have hl : (PySem.pairsH es).length = es.length := pairsH_length es
  have hz' : es.length ≤ 16777216 := by rw [← sizeLine_eq]; exact hz
  refine PyProof.Rows.call_len_slot (n := es.length) h2.typeIs PySem.F.slot_dict_len (fun Q' hq => len_keyed (knd := nestedKind X.prog X.w) (kvs := PySem.pairsH es) h1 ⟨es, h2, rfl⟩ (by rw [hl]; exact hq)) (by omega) (by omega) ?_
  rw [← rk.length] at q
  exact ⟨.int es.length, H, I.tok _, ⟨_, rfl⟩, q⟩
theorem call_lenX {X : Cx} : CallR X (.builtin "len") (rLenX X.K) := CallR.or' call_len call_lenD
def dLenX : List D → Option D
  | [.dct kvs] => if keysOk kvs then some (.int kvs.length) else none
  | xs => dLen xs
theorem c_lenX {K : PySem.W.Frag} : Cl1 K (rLenX K) dLenX := by
  intro H O vs ds Q dm r q
  unfold dLenX at q
  split at q
  · rename_i kvs
    by_cases hk : keysOk kvs = true
    · rw [if_pos hk] at q
      obtain ⟨v, rfl, rv⟩ := r.one
      obtain ⟨a, ob, xs, rfl, h1, h2, h3, h4⟩ := rv.dct
      exact .inr ⟨a, ob, xs, kvs, O, rfl, h1, h4, hk, h3, h2, q _ H (Same.refl H) (.int _)⟩
    · rw [if_neg hk] at q
      exact q.elim
  · exact .inl (c_len H O vs ds Q dm r q)
end PP

namespace PP
open PySem PySem.Spec PyProof.Rows L2
open Res (ok exc bad)
def pairOk (p q : PyData) : Bool := ([p, q].all fun x => [p, q].all fun y => PySem.W.alike x y) && (!isNone p && !isNone q) && (decide (p.depth ≤ 50) && decide (q.depth ≤ 50))
theorem isNone_ok {p : PyData} (h : (!isNone p) = true) : p ≠ .none := fun z => by rw [z] at h; cases h
theorem pairOk_ok {p q : PyData} (h : pairOk p q = true) : PySem.W.AlikeAll [p, q] ∧ PyData.depthAll [p, q] ≤ 50 := by
  unfold pairOk at h
  simp only [Bool.and_eq_true, List.all_eq_true, decide_eq_true_eq] at h
  obtain ⟨⟨h1, h2, h3⟩, h4, h5⟩ := h
  refine ⟨⟨fun x hx y hy => h1 x hx y hy, fun x hx => ?_⟩, ?_⟩
  · simp only [List.mem_cons, List.not_mem_nil, or_false] at hx
    rcases hx with rfl | rfl
    · exact isNone_ok h2
    · exact isNone_ok h3
  · simp only [PyData.depthAll]
    exact Nat.max_le.mpr ⟨h4, Nat.max_le.mpr ⟨h5, Nat.zero_le _⟩⟩
section
variable {prog : Program} {w : World} {A : Around} {E : Value → Shared → Prop} {s : Shared} {a b : Value} {p q : PyData} {as bs : List Addr} {Q : Value → Shared → Prop}
/-- min(a, b): the tuple of both is walked -/
theorem min2_data (hh : A.handled = none) (ra : Reads s.heap a p as) (rb : Reads s.heap b q bs) (hk : pairOk p q = true) (hu : A.units + 65 < cLine)
    (h : ∀ h' tk, (∀ c o, s.heap.get? c = some o → h'.get? c = some o) → Q (if PySem.W.dataLt q p = true then b else a) { s with heap := h', toks := tk }) : wpAny (model prog w) A (call (.builtin "min") [a, b]) Q E s := by
  obtain ⟨al, dp⟩ := pairOk_ok hk
  have e0 : Builtin.Builtins.bindParams "min" ["key", "default"] 0 ⟨[], []⟩ = pure [none, none] := rfl
  refine call_function_tree F.kind_min F.plain_min F.entry_min (F.args_min2 a b) (wpAny_bind (wpAny_of_eq e0 (show wpAny _ A.in1 (newTuple [a, b] >>= _) _ _ s from wpAny_bind (wpAny_newObj_type ?_))))
  let t0 : Shared := { s with heap := s.heap.push { cls := .type "tuple", data := .seq #[a, b] } }
  have k0 : ∀ c o, s.heap.get? c = some o → t0.heap.get? c = some o := fun c o e => Heap.get?_push_of_some _ e
  have hT : t0.heap.IsTuple s.heap.objs.size #[a, b] := ⟨_, Heap.get?_push_size _ rfl, rfl, 0, rfl⟩
  have rs : ∃ cs, ReadsAll t0.heap (Array.toList #[a, b]) [p, q] cs := ⟨_, .cons (Reads.keeps k0 ra) (.cons (Reads.keeps k0 rb) .nil)⟩
  obtain ⟨cs, rs⟩ := rs
  refine wpAny_bind (PySem.W.iter_tupleW (A := A.in1) (s := t0) hh hT fun t1 e W st hfp hw hk1 => wpAny_bind (wpAny_newObj_type ?_))
  have k01 : ∀ c o, t0.heap.get? c = some o → t1.heap.get? c = some o := hk1
  refine wpAny_pure ⟨plainId_quiet F.plain_min_loop _, codeAny_min_loop_firstH W t0.heap hw _ (PySem.W.cmpIn_lt (A := A.in1) rs al (by show A.units + 1 + _ < _; omega)) t1.heap.objs.size (fun z => Nat.lt_irrefl _ (hfp _ z)) (fresh_in k01) _ (show 0 < 2 from by decide) (fun c o e => Heap.get?_push_of_some _ (k01 c o e)) (W.frame 0 t1 _ t1.toks st (Nat.le_refl _) fun c _ o e => Heap.get?_push_of_some _ e) (Heap.get?_push_size _ rfl) fun v s' hP hm => ?_⟩
  have m1 := Moved.drop_new (tk := t1.toks) hm (Nat.le_refl _)
  obtain ⟨h', tk, rfl, hk'⟩ := PySem.W.moved_old (s := t0) e rfl m1
  have hv : v = if PySem.W.dataLt q p = true then b else a := by
    have z : (#[a, b] : Array Value)[argBest (fun i j => PySem.W.dataLt ([p, q].getD i .none) ([p, q].getD j .none)) 1]? = some v := hP
    by_cases c : PySem.W.dataLt q p = true
    · rw [if_pos c]
      simpa [argBest, c] using z.symm
    · rw [if_neg c]
      simpa [argBest, c] using z.symm
  rw [hv]
  exact h h' tk fun c o e => hk' c o (k0 c o e)
/-- max(a, b): the tuple of both is walked -/
theorem max2_data (hh : A.handled = none) (ra : Reads s.heap a p as) (rb : Reads s.heap b q bs) (hk : pairOk p q = true) (hu : A.units + 65 < cLine)
    (h : ∀ h' tk, (∀ c o, s.heap.get? c = some o → h'.get? c = some o) → Q (if PySem.W.dataLt p q = true then b else a) { s with heap := h', toks := tk }) : wpAny (model prog w) A (call (.builtin "max") [a, b]) Q E s := by
  obtain ⟨al, dp⟩ := pairOk_ok hk
  have e0 : Builtin.Builtins.bindParams "max" ["key", "default"] 0 ⟨[], []⟩ = pure [none, none] := rfl
  refine call_function_tree F.kind_max F.plain_max F.entry_max (F.args_max2 a b) (wpAny_bind (wpAny_of_eq e0 (show wpAny _ A.in1 (newTuple [a, b] >>= _) _ _ s from wpAny_bind (wpAny_newObj_type ?_))))
  let t0 : Shared := { s with heap := s.heap.push { cls := .type "tuple", data := .seq #[a, b] } }
  have k0 : ∀ c o, s.heap.get? c = some o → t0.heap.get? c = some o := fun c o e => Heap.get?_push_of_some _ e
  have hT : t0.heap.IsTuple s.heap.objs.size #[a, b] := ⟨_, Heap.get?_push_size _ rfl, rfl, 0, rfl⟩
  have rs : ∃ cs, ReadsAll t0.heap (Array.toList #[a, b]) [p, q] cs := ⟨_, .cons (Reads.keeps k0 ra) (.cons (Reads.keeps k0 rb) .nil)⟩
  obtain ⟨cs, rs⟩ := rs
  refine wpAny_bind (PySem.W.iter_tupleW (A := A.in1) (s := t0) hh hT fun t1 e W st hfp hw hk1 => wpAny_bind (wpAny_newObj_type ?_))
  have k01 : ∀ c o, t0.heap.get? c = some o → t1.heap.get? c = some o := hk1
  refine wpAny_pure ⟨plainId_quiet F.plain_max_loop _, codeAny_max_loop_firstH W t0.heap hw _ (PySem.W.cmpIn_gt (A := A.in1) rs al (by show A.units + 1 + _ < _; omega)) t1.heap.objs.size (fun z => Nat.lt_irrefl _ (hfp _ z)) (fresh_in k01) _ (show 0 < 2 from by decide) (fun c o e => Heap.get?_push_of_some _ (k01 c o e)) (W.frame 0 t1 _ t1.toks st (Nat.le_refl _) fun c _ o e => Heap.get?_push_of_some _ e) (Heap.get?_push_size _ rfl) fun v s' hP hm => ?_⟩
  have m1 := Moved.drop_new (tk := t1.toks) hm (Nat.le_refl _)
  obtain ⟨h', tk, rfl, hk'⟩ := PySem.W.moved_old (s := t0) e rfl m1
  have hv : v = if PySem.W.dataLt p q = true then b else a := by
    have z : (#[a, b] : Array Value)[argBest (fun i j => PySem.W.dataLt ([p, q].getD j .none) ([p, q].getD i .none)) 1]? = some v := hP
    by_cases c : PySem.W.dataLt p q = true
    · rw [if_pos c]
      simpa [argBest, c] using z.symm
    · rw [if_neg c]
      simpa [argBest, c] using z.symm
  rw [hv]
  exact h h' tk fun c o e => hk' c o (k0 c o e)
end
/-! ### min(a, b), max(a, b): numbers or such data -/
def rMM (K : PySem.W.Frag) (f : PyData → PyData → Bool) : List V → Hp → VK → Prop := fun xs H Q => ∃ x y p q, xs = [x, y] ∧ Dp K H x p ∧ Dp K H y q ∧ pairOk p q = true ∧ Q (if f p q = true then y else x) H
section
variable {X : Cx}
theorem call_min2D (hc : X.calm = true) (hu : X.A.units + 65 < cLine) : CallR X (.builtin "min") (rMM X.K fun p q => PySem.W.dataLt q p) := by
  intro pins s σ H xs us Q I r h
  obtain ⟨x, y, p, q, rfl, h1, h2, h3, k⟩ := h
  obtain ⟨u, v, rfl, ru, rv⟩ := vals2 r
  obtain ⟨as, r1⟩ := Dp.reads I p x u h1 ru
  obtain ⟨bs, r2⟩ := Dp.reads I q y v h2 rv
  refine min2_data (I.ok.hd hc) r1 r2 h3 hu fun h' tk kp => ⟨_, H, I.kept kp, ?_, k⟩
  by_cases c : PySem.W.dataLt q p = true
  · simp only [c, if_true]; exact rv
  · simp only [c, if_false, Bool.false_eq_true]; exact ru
theorem call_max2D (hc : X.calm = true) (hu : X.A.units + 65 < cLine) : CallR X (.builtin "max") (rMM X.K fun p q => PySem.W.dataLt p q) := by
  intro pins s σ H xs us Q I r h
  obtain ⟨x, y, p, q, rfl, h1, h2, h3, k⟩ := h
  obtain ⟨u, v, rfl, ru, rv⟩ := vals2 r
  obtain ⟨as, r1⟩ := Dp.reads I p x u h1 ru
  obtain ⟨bs, r2⟩ := Dp.reads I q y v h2 rv
  refine max2_data (I.ok.hd hc) r1 r2 h3 hu fun h' tk kp => ⟨_, H, I.kept kp, ?_, k⟩
  by_cases c : PySem.W.dataLt p q = true
  · simp only [c, if_true]; exact rv
  · simp only [c, if_false, Bool.false_eq_true]; exact ru
end
def mm (f : PyData → PyData → Bool) (a b : D) : Option D := (toPD a).bind fun p => (toPD b).bind fun q => if pairOk p q then some (if f p q = true then b else a) else none
/-- an answer that is one of two that are not owned -/
theorem mm_go {K : PySem.W.Frag} {H : Hp} {O : Addr → Prop} {x y : V} {a b : D} {f : PyData → PyData → Bool} {Q : VK} (rx : Rep K H O x a) (ry : Rep K H O y b) (q : VP K H O Q (mm f a b)) : rMM K f [x, y] H Q := by
  unfold mm at q
  cases e1 : toPD a with
  | none => rw [e1] at q; exact q.elim
  | some p =>
    rw [e1, Option.bind_some] at q
    cases e2 : toPD b with
    | none => rw [e2] at q; exact q.elim
    | some p2 =>
      rw [e2, Option.bind_some] at q
      by_cases c : pairOk p p2 = true
      · rw [if_pos c] at q
        refine ⟨x, y, p, p2, rfl, rx.dp e1, ry.dp e2, c, ?_⟩
        by_cases d : f p p2 = true
        · rw [if_pos d]; rw [if_pos d] at q; exact q _ H (Same.refl H) ry
        · rw [if_neg d]; rw [if_neg d] at q; exact q _ H (Same.refl H) rx
      · rw [if_neg c] at q; exact q.elim
def rMinX (K : PySem.W.Frag) : List V → Hp → VK → Prop := fun xs H Q => (∃ i j, xs = [.int i, .int j] ∧ Q (.int (if j < i then j else i)) H) ∨ rMM K (fun p q => PySem.W.dataLt q p) xs H Q
def rMaxX (K : PySem.W.Frag) : List V → Hp → VK → Prop := fun xs H Q => (∃ i j, xs = [.int i, .int j] ∧ Q (.int (if j > i then j else i)) H) ∨ rMM K (fun p q => PySem.W.dataLt p q) xs H Q
theorem call_minX {X : Cx} (hc : X.calm = true) (hu : X.A.units + 65 < cLine) : CallR X (.builtin "min") (rMinX X.K) := CallR.or' (call_min2 hc) (call_min2D hc hu)
theorem call_maxX {X : Cx} (hc : X.calm = true) (hu : X.A.units + 65 < cLine) : CallR X (.builtin "max") (rMaxX X.K) := CallR.or' (call_max2 hc) (call_max2D hc hu)
/-- min, max of two that are not owned -/
def dMinX : List D → Option D
  | [.int i, .int j] => some (.int (if j < i then j else i))
  | [.tup a, .tup b] => mm (fun p q => PySem.W.dataLt q p) (.tup a) (.tup b)
  | _ => none
def dMaxX : List D → Option D
  | [.int i, .int j] => some (.int (if j > i then j else i))
  | [.tup a, .tup b] => mm (fun p q => PySem.W.dataLt p q) (.tup a) (.tup b)
  | _ => none
theorem c_minX {K : PySem.W.Frag} : Cl1 K (rMinX K) dMinX := by
  intro H O vs ds Q dm r q
  unfold dMinX at q
  split at q
  · obtain ⟨v, u, rfl, rv, ru⟩ := r.two
    exact .inl ⟨_, _, by rw [rv.int, ru.int], q _ H (Same.refl H) (.int _)⟩
  · obtain ⟨v, u, rfl, rv, ru⟩ := r.two
    exact .inr (mm_go rv.tupR ru.tupR q)
  · exact q.elim
theorem c_maxX {K : PySem.W.Frag} : Cl1 K (rMaxX K) dMaxX := by
  intro H O vs ds Q dm r q
  unfold dMaxX at q
  split at q
  · obtain ⟨v, u, rfl, rv, ru⟩ := r.two
    exact .inl ⟨_, _, by rw [rv.int, ru.int], q _ H (Same.refl H) (.int _)⟩
  · obtain ⟨v, u, rfl, rv, ru⟩ := r.two
    exact .inr (mm_go rv.tupR ru.tupR q)
  · exact q.elim
end PP

namespace PP
open PySem PySem.Spec PyProof.Rows L2
open Res (ok exc bad)
/-! ### {k: v}, k a tuple -/
def mDisp1 (f g : Sls → Res D) : Sls → Res D := fun ρ => f ρ >>= fun dk => g ρ >>= fun dv => if (keyT dk).isSome then ok (D.dct [(dk, dv)]) else bad
theorem ext_empty {P : Program} {w : World} {H : Hp} (h : Heap) (hb : sysModules < h.objs.size) : ObjOk P w H (h.push { cls := .type "dict", data := .dict #[] }) h.objs.size (.ext (DictAt h.objs.size { cls := .type "dict", data := .dict #[] } [])) :=
  ⟨⟨beq_eq_false_iff_ne.mpr (Ne.symm (Nat.ne_of_lt hb)), Heap.get?_push_size _ rfl, ⟨rfl, rfl, rfl⟩, #[], 0, rfl, fun _ => rfl⟩, ⟨_, Heap.get?_push_size _ rfl⟩, dictAt_stab⟩
abbrev ob0 : Obj := { cls := .type "dict", data := .dict #[] }
theorem noTup_ext {H : Hp} {a : Addr} {φ : Heap → Prop} (e : H a = some (.ext φ)) : NoTup H a := fun ys r => by rcases r with r | ⟨o, r⟩ <;> (rw [e] at r; cases r)
theorem en_disp1 {X : Cx} {E : EX} {ke ve : Expr} {f g : Sls → Res D} {pos : Pos} (hu : X.A.units + 65 < cLine) (hk : EF X E ke f) (hv : EF X E ve g) : EN X E (.Dict [some ke] [ve] pos) (mDisp1 f g) := ⟨fun pins s σ H Q I ⟨ρ, O, F, st, p⟩ => by
  have hn := I.hok.fresh (Nat.le_refl s.heap.objs.size)
  generalize eD : s.heap.objs.size = D0 at hn
  have I1 := I.laid (a := s.heap.objs.size) (o := .ext (DictAt s.heap.objs.size ob0 [])) (h' := s.heap.push { cls := .type "dict", data := .dict #[] }) (t' := s.toks) (fun _ _ q => Heap.get?_push_of_some _ q) (Nat.le_refl _) (ext_empty s.heap I.big)
  rw [eD] at I1
  have e1 : Same H (upd H D0 (.ext (DictAt D0 ob0 []))) := same_new hn
  have st1 := st.add e1 hn (by rw [upd_same]; exact fun z => nomatch z) (noTup_ext upd_same)
  have p1 : Po X.K E σ H (f ρ >>= fun dk => g ρ >>= fun dv => if (keyT dk).isSome then ok (D.dct [(dk, dv)]) else bad) (fun d => ∀ v a H', Same H H' → H a = none → RepN X.K H' (Ad O a) v d a → Q v H') := p
  have hsh : (evalEachOpt [some ke] X.env).zip ((evalEach [ve] X.env).map fun v => do let x ← v; standAt pos; pure x) = [(eval ke X.env, do let x ← eval ve X.env; standAt pos; pure x)].map fun p => (some p.1, p.2) := rfl
  rw [arm_eval_Dict, hsh, dictDisplay_pairs [(eval ke X.env, do let x ← eval ve X.env; standAt pos; pure x)] (List.cons_ne_nil _ _) (show 1 < 17 from by decide)]
  refine wpAny_bind (wpAny_standAt (wpAny_bind (wpAny_subDictH (knd := nestedKind X.prog X.w) (Q := fun d s' => wpAny (model X.prog X.w) X.A (pure (Value.ref d)) (EP X pins σ Q) X.xe s') (show X.A.units + 8 < cLine by omega) (show 1 ≤ 15 from by decide) ?_)))
  rw [eD]
  refine evalPairs_cons (thn (hk.run pins _ σ _ _ I1 ⟨ρ, _, F, st1, (p1.bind.imp fun dk p2 y H2 e2 ry => (show (fun y H2 => ∃ dk, Same (upd H D0 (.ext (DictAt D0 ob0 []))) H2 ∧ Rep X.K H2 (Ad O D0) y dk ∧ Po X.K E σ H (g ρ >>= fun dv => if (keyT dk).isSome then ok (D.dct [(dk, dv)]) else bad) fun d => ∀ v a H', Same H H' → H a = none → RepN X.K H' (Ad O a) v d a → Q v H') y H2 from ⟨dk, e2, ry, p2⟩)).later e1⟩) fun kv s2 ⟨y, H2, I2, ru, dk, e2, ry, p2⟩ => ?_)
  refine wpAny_bind (thn (hv.run pins s2 σ H2 _ I2 ⟨ρ, _, F, st1.same e2, (p2.bind.imp fun dv p3 z H3 e3 rz => (show (fun z H3 => ∃ dv, Same H2 H3 ∧ Rep X.K H3 (Ad O D0) z dv ∧ Po X.K E σ H (if (keyT dk).isSome then ok (D.dct [(dk, dv)]) else bad) fun d => ∀ v a H', Same H H' → H a = none → RepN X.K H' (Ad O a) v d a → Q v H') z H3 from ⟨dv, e3, rz, p3⟩)).later (e1.trans e2)⟩) fun vv s3 ⟨z, H3, I3, rv, dv, e3, rz, p3⟩ => wpAny_bind (wpAny_standAt (wpAny_pure (evalPairs_nil ?_))))
  cases kt : keyT dk with
  | none => rw [kt] at p3; exact p3.elim
  | some k =>
    rw [kt] at p3
    obtain ⟨k1, k2, ts, rfl⟩ := keyT_ok kt
    obtain ⟨b, rfl⟩ := ry.refT
    obtain rfl : kv = Value.ref b := ru
    have ry3 := ry.same e3
    have ed : H3 D0 = some (.ext (DictAt D0 ob0 [])) := e3 _ _ (e2 _ _ upd_same)
    obtain ⟨h1, h2⟩ := dict_of (O := O) (kvs := []) I3 ed .nil rfl List.nodup_nil
    refine ⟨[(k, b, vv)], ⟨rfl, rfl, ⟨nested_of I3 ry3 k1 rfl, k2⟩, trivial⟩, h2, fun h' tk dd hs => wpAny_pure ?_⟩
    have es : storedAllH [] [(k, b, vv)] = [(k, b, vv)] := rfl
    rw [es] at dd
    have rk : RepKs X.K H3 (Ad O D0) [(k, b, vv)] [(.tup ts, dv)] := .cons ry3 k1 rv rz .nil
    obtain ⟨ob2, da⟩ := dictAt_of h1 dd rk.hash
    obtain ⟨q, _, _, hq, _⟩ := id dd
    have I4 := d_write (t' := tk) (ob := .ext (DictAt D0 ob2 [(k, b, vv)])) I3 (by rw [ed]; exact True.intro) hs ⟨q, hq⟩ ⟨da, ⟨q, hq⟩, dictAt_stab⟩
    refine ⟨.ref D0, _, I4, rfl, ?_⟩
    exact p3 (.ref D0) D0 _ (fun c o e => by
      have hc : c ≠ D0 := fun z => by rw [z, hn] at e; cases e
      rw [upd_ne hc]
      exact e3 _ _ (e2 _ _ (e1 _ _ e))) hn ⟨rfl, .inr rfl, _, _, upd_same, by rw [sizeLine_eq]; exact (show 1 ≤ 16777216 from by decide), List.nodup_cons.mpr ⟨by simp, List.nodup_nil⟩, rk.upd (.inr rfl) (noTup_ext ed)⟩⟩
end PP

namespace PP
open PySem PySem.Spec PyProof.Rows L2
open Res (ok exc bad)
/-! ### a walk of a dict's keys -/
abbrev DX := List (NestedKey × Addr × Value)
def Itx (a : Addr) (ob : Obj) (xs : DX) : It := ⟨fun i H => H a = some (.ext (DictAt a ob xs)) ∧ i < xs.length, fun i H v H' => H' = H ∧ ∃ x, xs[i]? = some x ∧ v = V.ref x.2.1, fun i H => H a = some (.ext (DictAt a ob xs)) ∧ xs.length ≤ i⟩
theorem raw_of {X : Cx} {pins : List (Addr × Obj)} {σ : L2.St} {H : Hp} {s : Shared} {a : Addr} {ob : Obj} {xs : DX} (I : Inv X pins σ H s) (e : H a = some (.ext (DictAt a ob xs))) {es : Array DictEntry} {ep : Nat} (hod : ob.data = .dict es ep) :
    (a == sysModules) = false ∧ s.heap.DictRaw a es ep ∧ es.size = xs.length ∧ ∀ i (hi : i < es.size), ∃ x, xs[i]? = some x ∧ es[i].key = .ref x.2.1 := by
  obtain ⟨⟨h1, h2, h3, es', ep', h4, h5⟩, _⟩ := (show ObjOk X.prog X.w H s.heap a (.ext (DictAt a ob xs)) from I.hok a _ e)
  rw [hod] at h4
  cases h4
  have h6 := h5 X.w
  have hl : es.size = xs.length := by rw [← Array.length_toList, h6, List.length_map]
  refine ⟨h1, ⟨ob, h2, h3, hod⟩, hl, fun i hi => ?_⟩
  have hx : i < xs.length := by omega
  refine ⟨xs[i], List.getElem?_eq_getElem hx, ?_⟩
  have q : es.toList[i]? = (xs.map fun x => (⟨x.1.hash X.w, .ref x.2.1, x.2.2⟩ : DictEntry))[i]? := by rw [h6]
  rw [Array.getElem?_toList, Array.getElem?_eq_getElem hi, List.getElem?_map, List.getElem?_eq_getElem hx] at q
  have q2 := Option.some.inj q
  rw [q2]
theorem turn_x {P : Program} {w : World} {K : PySem.W.Frag} {tg : Expr} {a : Addr} {ob : Obj} {xs : DX} {es : Array DictEntry} {ep : Nat} (it : Addr) (hod : ob.data = .dict es ep) : Turn P w K tg (Itx a ob xs) [it] it (fun i h => h.IsKeyIter it a i (List.replicate es.size (([] : List Key), V.non)).length ep) :=
  have T0 := turn_keysT (P := P) (w := w) (K := K) (tg := tg) (d := a) (o := ob) (kvs := List.replicate es.size (([] : List Key), V.non)) it hod
  { mem := T0.mem, obj := T0.obj, keep := T0.keep, self := T0.self
    item := by
      intro X hP hw hK hc i pins s σ H E I hf st hg
      subst hP hw hK
      obtain ⟨f0, f1, f2, f3, f4, f5⟩ := hf it (by simp)
      obtain ⟨h1, h2, h3, h4⟩ := raw_of I hg.1 hod
      rw [List.length_replicate] at st
      have hi : i < es.size := by have := hg.2; omega
      obtain ⟨x, x1, x2⟩ := h4 i hi
      refine wpAny_pyNext_keys_item_raw st h2 hi fun h' st' sb => ⟨_, rfl, ?_⟩
      have I1 : Inv X pins σ H { s with heap := h' } := I.turned (t' := s.toks) (fun c o hc e => (sb.2 c hc).trans e) f0 f1 f3 f4 f5
      obtain ⟨oi, e, c, dd⟩ := id st'
      rw [x2]
      exact go_of (s := { s with heap := h' }) e c dd (by decide) ⟨.ref x.2.1, H, I1, rfl, ⟨rfl, x, x1, rfl⟩, by rw [List.length_replicate]; exact st', fun b hb => (hf b hb).1⟩
    done := by
      intro X hP hw hK hc i pins s σ H E I hf st hg
      subst hP hw hK
      obtain ⟨f0, f1, f2, f3, f4, f5⟩ := hf it (by simp)
      obtain ⟨h1, h2, h3, h4⟩ := raw_of I hg.1 hod
      rw [List.length_replicate] at st
      exact wpAny_pyNext_keys_end_raw (I.ok.hd hc) st h2 (by have := hg.2; omega) fun h' eb => ⟨rfl, I.turned (t' := s.toks) (fun c o hc e => eb c o hc e) f0 f1 f3 f4 f5⟩ }
section
variable {X : Cx} {E : EX} {e tg : Expr} {f : Sls → Res D}
def iDct (te : TE) : TI := fun σ H R => te σ H fun x H1 => ∃ a ob xs, x = .ref a ∧ H1 a = some (.ext (DictAt a ob xs)) ∧ R (Itx a ob xs) H1
theorem pi_dct {te : TE} (he : PE X e te) : PI X tg e (iDct te) := by
  refine ⟨fun pins s σ H R I h => ?_⟩
  refine thn (he.run pins s σ H _ I h) fun u s1 ⟨x, H1, I1, rx, a, ob, xs, ex, e1, q⟩ => ?_
  subst ex
  obtain rfl : u = Value.ref a := rx
  obtain ⟨⟨h1, h2, h3, es, ep, h4, h5⟩, _⟩ := (show ObjOk X.prog X.w H1 s1.heap a (.ext (DictAt a ob xs)) from I1.hok a _ e1)
  refine wpAny_pyIter_dict_raw h1 ⟨ob, h2, h3, h4⟩ (pi_one (tk := s1.toks) I1 _ (turn_x _ h4) ⟨_, Heap.get?_push_size _ rfl, rfl, ?_⟩ q)
  rw [List.length_replicate]
  rfl
end
theorem RepKs.getK {K : PySem.W.Frag} {H : Hp} {O : Addr → Prop} : ∀ {xs : DX} {kvs : List (D × D)} {i : Nat} {d : D}, RepKs K H O xs kvs → (kvs.map (·.1))[i]? = some d → ∃ x, xs[i]? = some x ∧ Rep K H O (.ref x.2.1) d
  | _, _, _, _, .nil, e => by simp at e
  | _, _, 0, _, .cons r _ _ _ _, e => by
    simp at e
    subst e
    exact ⟨_, rfl, r⟩
  | _, _, i + 1, _, .cons _ _ _ _ t, e => by
    obtain ⟨x, h1, h2⟩ := RepKs.getK (i := i) t (by simpa using e)
    exact ⟨x, by simpa using h1, h2⟩
theorem wk_dct {K : PySem.W.Frag} {H : Hp} {O : Addr → Prop} {a : Addr} {ob : Obj} {xs : DX} {kvs : List (D × D)} (d : Dom H O) (h : H a = some (.ext (DictAt a ob xs))) (n : ¬ O a) (r : RepKs K H O xs kvs) : Wk K (Itx a ob xs) (kvs.map (·.1)) H O := by
  intro H2 O2 l i
  have h2 := (l _ _ h n).1
  have r2 := r.later d l
  refine ⟨fun x e => ?_, fun hi => ⟨h2, by rw [r.length]; simpa using hi⟩⟩
  obtain ⟨y, y1, y2⟩ := r2.getK e
  refine ⟨⟨h2, (List.getElem?_eq_some_iff.mp y1).1⟩, fun v H3 ⟨e3, z, z1, z2⟩ => ?_⟩
  subst e3 z2
  rw [y1] at z1
  cases z1
  exact ⟨Same.refl _, y2⟩
def mItD (f : Sls → Res D) : Sls → Res (List D) := fun ρ => f ρ >>= fun d => match d with
  | .dct kvs => ok (kvs.map (·.1))
  | _ => bad
theorem ei_dct {X : Cx} {E : EX} {e tg : Expr} {f : Sls → Res D} (he : EF X E e f) : EI X E tg e (mItD f) := pi_imp (pi_dct he) fun σ H R ⟨ρ, O, F, s, p⟩ => ⟨ρ, O, F, s, p.bind.imp fun d p1 v H1 e1 r1 => by
  have dm := (s.same e1).dom
  cases d with
  | dct kvs =>
    cases r1 with
    | dct h n z q r => exact ⟨_, _, _, rfl, h, p1 _ H1 e1 (by rw [List.length_map, ← r.length]; exact z) (wk_dct dm h n r)⟩
  | _ => exact p1.elim⟩
end PP

namespace PP
open PySem PySem.Spec PyProof.Rows L2
open Res (ok exc bad)
/-! ### min of a dict's keys -/
abbrev btP (ps : List PyData) : Nat → Nat → Bool := fun i j => PySem.W.dataLt (ps.getD i .none) (ps.getD j .none)
def rMinDct (K : PySem.W.Frag) : List V → Hp → VK → Prop := fun vs H Q => ∃ a ob xs kvs Z ps, vs = [V.ref a] ∧ H a = some (.ext (DictAt a ob xs)) ∧ RepKs K H Z xs kvs ∧ toPDs (kvs.map (·.1)) = some ps ∧ PySem.W.AlikeAll ps ∧ PyData.depthAll ps ≤ 50 ∧ 0 < xs.length ∧
  ∀ x, xs[argBest (btP ps) (xs.length - 1)]? = some x → Q (.ref x.2.1) H
theorem dp_at {K : PySem.W.Frag} {H : Hp} {O : Addr → Prop} : ∀ {xs : DX} {kvs : List (D × D)} {ps : List PyData} {i : Nat} {x : NestedKey × Addr × Value}, RepKs K H O xs kvs → toPDs (kvs.map (·.1)) = some ps → xs[i]? = some x → Dp K H (.ref x.2.1) (ps.getD i .none) ∧ i < ps.length
  | _, _, _, _, _, .nil, _, e => by simp at e
  | _, _, ps, 0, _, .cons r _ _ _ _, e, e2 => by
    simp only [List.map_cons, toPDs, Option.bind_eq_some_iff, Option.map_eq_some_iff] at e
    obtain ⟨p, e1, qs, e3, rfl⟩ := e
    cases e2
    exact ⟨r.dp e1, by simp⟩
  | _, _, ps, i + 1, _, .cons _ _ _ _ t, e, e2 => by
    simp only [List.map_cons, toPDs, Option.bind_eq_some_iff, Option.map_eq_some_iff] at e
    obtain ⟨p, e1, qs, e3, rfl⟩ := e
    obtain ⟨h1, h2⟩ := dp_at (i := i) t e3 (by simpa using e2)
    exact ⟨by simpa using h1, by simpa using h2⟩
theorem depth_le {p : PyData} : ∀ {ps : List PyData}, p ∈ ps → p.depth ≤ PyData.depthAll ps
  | q :: ps, h => by
    simp only [PyData.depthAll]
    rcases List.mem_cons.mp h with e | e
    · rw [e]; exact Nat.le_max_left _ _
    · exact Nat.le_trans (depth_le e) (Nat.le_max_right _ _)
theorem getD_mem {ps : List PyData} {i : Nat} (h : i < ps.length) : ps.getD i .none ∈ ps := by
  rw [List.getD_eq_getElem?_getD, List.getElem?_eq_getElem h]
  exact List.getElem_mem h
theorem call_minDct {X : Cx} (hc : X.calm = true) (hu : X.A.units + 65 < cLine) : CallR X (.builtin "min") (rMinDct X.K) := by
  intro pins s σ H vs us Q I r h
  obtain ⟨a, ob, xs, kvs, Z, ps, rfl, e, rk, ep, al, dp, h0, k⟩ := h
  rw [Vals.ref1 r]
  obtain ⟨⟨h1, h2, h3, es, epp, h4, h5⟩, _⟩ := (show ObjOk X.prog X.w H s.heap a (.ext (DictAt a ob xs)) from I.hok a _ e)
  obtain ⟨_, hr, hl, hk⟩ := raw_of I e h4
  have hlt : a < s.heap.objs.size := Heap.lt_size h2
  refine call_min_walkH (wpAny_pyIter_dict_raw (A := X.A.in1) h1 hr ?_)
  refine ⟨_, [s.heap.objs.size, a], [s.heap.objs.size], _, es.size, _, _, s.heap, btP ps, rfl, (Walks.rawKeys (A := X.A.in1) (I.ok.hd hc) s.heap.objs.size a (Nat.ne_of_lt hlt) es epp).toS, ⟨⟨_, Heap.get?_push_size _ rfl, rfl, rfl⟩, hr.at fun o q => Heap.get?_push_of_some _ q⟩, fun b hb => ?_, by omega, fun b o q hb => ?_, fun b o q => Heap.get?_push_of_some _ q, fun i j vi vj s' Q' E' kp ⟨hi, ei⟩ ⟨hj, ej⟩ hq => ?_, fun v s' ⟨hi, ev⟩ m => ?_⟩
  · show b < (s.heap.push _).objs.size
    rw [Heap.size_push]
    simp only [List.mem_cons, List.not_mem_nil, or_false] at hb
    rcases hb with rfl | rfl
    · exact Nat.lt_succ_self _
    · exact Nat.lt_succ_of_lt hlt
  · exact absurd (Heap.lt_size q) ((List.mem_singleton.mp hb) ▸ Nat.lt_irrefl _)
  · obtain ⟨x, x1, x2⟩ := hk i hi
    obtain ⟨y, y1, y2⟩ := hk j hj
    obtain ⟨d1, l1⟩ := dp_at rk ep x1
    obtain ⟨d2, l2⟩ := dp_at rk ep y1
    obtain ⟨as, r1⟩ := Dp.reads I _ _ _ d1 rfl
    obtain ⟨bs, r2⟩ := Dp.reads I _ _ _ d2 rfl
    rw [ei, ej, x2, y2]
    have m1 := getD_mem l1
    have m2 := getD_mem l2
    refine PySem.W.rcLt_alike _ _ X.A.in1 s' _ _ _ _ (Reads.keeps kp r1) (Reads.keeps kp r2) (al.1 _ m1 _ m2) (al.2 _ m1) ?_ X.prog X.w E' Q' hq
    have := depth_le m1
    have := Nat.min_le_left (ps.getD i .none).depth (ps.getD j .none).depth
    show X.A.units + 1 + _ < cLine
    omega
  · obtain ⟨h', tk, rfl, hk'⟩ := PySem.W.moved_old (s := s) rfl rfl m
    obtain ⟨x, x1, x2⟩ := hk _ hi
    rw [ev, x2]
    rw [hl] at x1
    exact ⟨.ref x.2.1, H, I.kept hk', rfl, k x x1⟩
def dMinD : List D → Option D
  | [.dct kvs] => (toPDs (kvs.map (·.1))).bind fun ps => if (ps.all fun x => ps.all fun y => PySem.W.alike x y) && (ps.all fun x => !isNone x) && decide (PyData.depthAll ps ≤ 50) then (kvs.map (·.1))[argBest (btP ps) (kvs.length - 1)]? else none
  | _ => none
theorem c_minD {K : PySem.W.Frag} : Cl1 K (rMinDct K) dMinD := by
  intro H O vs ds Q dm r q
  unfold dMinD at q
  split at q
  · rename_i kvs
    obtain ⟨v, rfl, rv⟩ := r.one
    obtain ⟨a, ob, xs, rfl, h1, h2, h3, h4⟩ := rv.dct
    cases e : toPDs (kvs.map (·.1)) with
    | none => rw [e] at q; exact q.elim
    | some ps =>
      rw [e, Option.bind_some] at q
      by_cases c : ((ps.all fun x => ps.all fun y => PySem.W.alike x y) && (ps.all fun x => !isNone x) && decide (PyData.depthAll ps ≤ 50)) = true
      · rw [if_pos c] at q
        simp only [Bool.and_eq_true, List.all_eq_true, decide_eq_true_eq] at c
        obtain ⟨⟨c1, c2⟩, c3⟩ := c
        cases g : (kvs.map (·.1))[argBest (btP ps) (kvs.length - 1)]? with
        | none => rw [g] at q; exact q.elim
        | some d =>
          rw [g] at q
          obtain ⟨x, x1, x2⟩ := h4.getK g
          refine ⟨a, ob, xs, kvs, O, ps, rfl, h1, h4, e, ⟨fun x hx y hy => c1 x hx y hy, fun x hx => isNone_ok (c2 x hx)⟩, c3, Nat.lt_of_le_of_lt (Nat.zero_le _) (List.getElem?_eq_some_iff.mp x1).1, fun y y1 => ?_⟩
          rw [h4.length] at y1
          rw [x1] at y1
          cases y1
          exact q _ H (Same.refl H) x2
      · rw [if_neg c] at q; exact q.elim
  · exact q.elim
end PP

namespace PP
open PySem PySem.Spec PyProof.Rows L2
open Res (ok exc bad)
/-! ### xs.extend([..]) -/
def sExt (i : Nat) (f : Sls → Res D) : Sls → Fl := fun ρ => match ρ[i]? with
  | some (.ow (.lst ds)) => thenF (f ρ) ρ fun d => (match d with
    | .lst es => if ds.length + es.length ≤ sizeLine then .nx (ρ.set i (.ow (.lst (ds ++ es)))) else .bad
    | _ => .bad)
  | _ => .bad
theorem ext_reads {Kf : PySem.W.Frag} {E : EX} {i : Nat} {f : Sls → Res D} {D' : Ends} {σ : L2.St} {H : Hp} (hq : tSS Kf E (sExt i f) D' σ H) : tDrop (tBM Kf "list" rExtend (tVar i) (tCons (tEN Kf E f) tNil)) D' σ H := by
  obtain ⟨ρ, O, F, s, p⟩ := hq
  unfold sExt at p
  split at p
  · rename_i ds e
    obtain ⟨a, e1, hF, hO, vs, e2, z, r⟩ := s.st.getO e
    refine ⟨_, e1, .inl ⟨rfl, vs, .of e2⟩, ρ, O, F, s, (FP.po s p).imp fun d p1 v c H1 eH n r1 => ?_⟩
    have s1 := s.same eH
    have e3 := eH _ _ e2
    obtain ⟨rfl, _, hk1⟩ := r1
    cases d with
    | lst es =>
      obtain ⟨zs, e4, z4, r4⟩ := hk1
      by_cases hl : ds.length + es.length ≤ sizeLine
      · simp only [] at p1
        rw [if_pos hl] at p1
        have r5 : Reps Kf H1 O zs es := r4.less fun _ q => .inl q
        refine ⟨a, c, vs, zs, rfl, rfl, e3, e4, by rw [r.length, r5.length]; exact hl, ?_⟩
        have hT := noTup_lst e3
        have hk : RepK Kf (upd H1 a (.lst (vs ++ zs))) O a (.lst (ds ++ es)) := ⟨_, upd_same, by rw [List.length_append, r.length, r5.length]; exact hl, ((r.same eH).append r5).upd hO hT⟩
        refine p1 _ _ O F ⟨RSt.updAt hO hT hk e e1 s1.st, fun b hb => ?_⟩ ⟨fun b o q m => ?_, fun b hb => .inl hb, fun b hb => .inl hb, fun b hb => .inl hb⟩
        · by_cases hba : b = a
          · subst hba; exact ⟨by rw [upd_same]; exact fun z => (nomatch z), noTup_lst upd_same⟩
          · obtain ⟨d1, d2⟩ := s1.dom b hb
            exact ⟨by rw [upd_ne hba]; exact d1, fun ys q => d2 ys (by rcases q with q | ⟨o, q⟩ <;> rw [upd_ne hba] at q; exact .inl q; exact .inr ⟨o, q⟩)⟩
        · rw [upd_ne (fun z => m (by rw [z]; exact hF))]
          exact eH _ _ q
      · simp only [] at p1
        rw [if_neg hl] at p1
        exact p1.elim
    | _ => exact p1.elim
  · exact p.elim
theorem ss_ext (i : Nat) {X : Cx} {E : EX} {e : Expr} {f : Sls → Res D} {x : Str} {px apos cpos spos : Pos} (he : EN X E e f) (hN : X.N[i]? = some x := by rfl) (hv : Vis X.env.scope x := by first | exact Or.inl rfl | exact Or.inr (Or.inl rfl) | exact Or.inr (Or.inr rfl)) (hd : (x == ("__debug__" : Str)) = false := by decide)
    (hcd : (x == ("__classdict__" : Str)) = false := by decide)
    (hbase : attributeBase (.Name x px) "extend" X.env (eval (.Name x px) X.env) = eval (.Name x px) X.env := by rfl)
    (hfew : ((backTo cpos (starEach [e] X.env)).all (fun x => !x.1) && (backToKw cpos (keywordEach [] X.env)).all (fun x => x.1.isSome)
      && decide (([e] : List Expr).length + ([] : List Keyword).length + (if ([] : List Keyword).isEmpty then 0 else 1) < 30)) = true := by rfl)
    (hline : (apos.endLine == cpos.line) = true := by rfl) (hs : starEach [e] X.env = (false, eval e X.env) :: starEach [] X.env := by rfl) (hplain : (backTo cpos (starEach [] X.env)).any (·.1) = false := by rfl)
    (hsw : swapsWith (.Call (.Attribute (.Name x px) "extend" apos) [e] [] cpos) none spos.line X.env = pure false := by rfl) :
    SS X E (.Expr (.Call (.Attribute (.Name x px) "extend" apos) [e] [] cpos) spos) (sExt i f) :=
  ps_imp (ps_expr (pe_bm PySem.F.plainAttrs_list PySem.F.slot_list_extend PySem.F.type_list_extend mt_extend (pe_var hN hv hd hcd) (pa_cons he pa_nil hs) hbase hfew hline hs hplain) hsw) fun D σ H hq => ext_reads hq
/-! ### [..] * n -/
def dRepL : D → D → Option D
  | .lst xs, .int k => if 0 ≤ k ∧ k ≤ 1000 ∧ xs.length ≤ 1000 then some (.lst (List.replicate k.toNat xs).flatten) else none
  | _, _ => none
theorem reps_rep {K : PySem.W.Frag} {H : Hp} {O : Addr → Prop} {vs : List V} {ds : List D} (r : Reps K H O vs ds) : ∀ n : Nat, Reps K H O (List.replicate n vs).flatten (List.replicate n ds).flatten
  | 0 => .nil
  | n + 1 => by
    rw [List.replicate_succ, List.replicate_succ, List.flatten_cons, List.flatten_cons]
    exact r.append (reps_rep r n)
theorem len_rep {α : Type} (xs : List α) (n : Nat) : (List.replicate n xs).flatten.length = xs.length * n := by
  induction n with
  | zero => simp
  | succ n ih => rw [List.replicate_succ, List.flatten_cons, List.length_append, ih, Nat.mul_succ]; omega
def rRepA : R2 := fun x y H Q => ∃ l k xs, x = V.ref l ∧ y = .int k ∧ H l = some (.lst xs) ∧ -(2 ^ 63) ≤ k ∧ k < 2 ^ 63 ∧ xs.length * k.toNat ≤ sizeLine ∧ ∀ p, H p = none → Q (.ref p) (upd H p (.lst (List.replicate k.toNat xs).flatten))
end PP

namespace PP
open PySem PySem.Spec PyProof.Rows L2
open Res (ok exc bad)
/-! ### xs.pop() as the last argument of a call that a for goes over -/
theorem Reps.dropLast {K : PySem.W.Frag} {H : Hp} {O : Addr → Prop} : ∀ {vs : List V} {ds : List D}, Reps K H O vs ds → Reps K H O vs.dropLast ds.dropLast
  | _, _, .nil => .nil
  | [_], [_], .cons _ .nil => .nil
  | _ :: _ :: _, _ :: _ :: _, .cons r (.cons r2 t) => .cons r (Reps.dropLast (.cons r2 t))
def popSl (i : Nat) (ρ : Sls) : Option (Sls × D) := match ρ[i]? with
  | some (.ow (.lst ds)) => match ds[ds.length - 1]? with
    | some d => some (ρ.set i (.ow (.lst ds.dropLast)), d)
    | none => none
  | _ => none
theorem pop_reads {K : PySem.W.Frag} {i : Nat} {ρ ρ' : Sls} {d : D} {O : Addr → Prop} {F : List Addr} {σ : L2.St} {H : Hp} {Q : VK} (s : Sta K H O σ ρ F) (h : popSl i ρ = some (ρ', d))
    (q : ∀ v H', Sta K H' O σ ρ' F → Tr H O F H' O F → Rep K H' O v d → (∀ w e, Rep K H O w e → Rep K H' O w e) → Q v H') : tBM0 K "list" rPop (tVar i) σ H Q := by
  unfold popSl at h
  split at h
  · rename_i ds e
    split at h
    · rename_i d0 hd
      cases h
      obtain ⟨a, e1, hF, hO, vs, e2, z, r⟩ := s.st.getO e
      obtain ⟨y, hy, ry⟩ := r.get hd
      have hT := noTup_lst e2
      refine ⟨_, e1, .inl ⟨rfl, vs, .of e2⟩, a, vs, y, rfl, rfl, e2, by rw [r.length]; exact hy, ?_⟩
      have r2 : Reps K H O vs.dropLast ds.dropLast := r.dropLast
      have hk : RepK K (upd H a (.lst vs.dropLast)) O a (.lst ds.dropLast) := ⟨_, upd_same, by rw [List.length_dropLast]; exact Nat.le_trans (Nat.sub_le _ _) z, r2.upd hO hT⟩
      refine q y _ ⟨RSt.updAt hO hT hk e e1 s.st, fun b hb => ?_⟩ ⟨fun b o q m => ?_, fun b hb => .inl hb, fun b hb => .inl hb, fun b hb => .inl hb⟩ (ry.upd hO hT) fun w e r => r.upd hO hT
      · by_cases hba : b = a
        · subst hba; exact ⟨by rw [upd_same]; exact fun z => (nomatch z), noTup_lst upd_same⟩
        · obtain ⟨d1, d2⟩ := s.dom b hb
          exact ⟨by rw [upd_ne hba]; exact d1, fun ys q => d2 ys (by rcases q with q | ⟨o, q⟩ <;> rw [upd_ne hba] at q; exact .inl q; exact .inr ⟨o, q⟩)⟩
      · rw [upd_ne (fun z => m (by rw [z]; exact hF))]
        exact q
    · cases h
  · cases h
/-! ### a for over an iterable whose reading changes a slot -/
def tEIS (K : PySem.W.Frag) (f : Sls → Option (Sls × List D)) : TI := fun σ H R => ∃ ρ O F, Sta K H O σ ρ F ∧ ∃ ρ1 ds, f ρ = some (ρ1, ds) ∧ ∀ J H1, Sta K H1 O σ ρ1 F → Tr H O F H1 O F → ds.length ≤ sizeLine → Wk K J ds H1 O → R J H1
abbrev EIS (X : Cx) (tg iter : Expr) (f : Sls → Option (Sls × List D)) : Prop := PI X tg iter (tEIS X.K f)
def sForS (it : Sls → Option (Sls × List D)) (t : TgF) (body : Sls → Fl) : Sls → Fl := fun ρ => match it ρ with
  | some (ρ1, xs) => forL (fun x ρ => thenF (t x ρ).quiet ρ body) xs ρ1
  | none => .bad
section
variable {X : Cx} {E : EX} {s1 : Sls → Fl} {pos : Pos}
theorem ss_forS {tg iter : Expr} {body : List Stmt} {it : Sls → Option (Sls × List D)} {g : L2.TG} {t : TgF} {vs : List Nat} (hp : PassesOwn (model X.prog X.w) X.A X.env X.xe) (hc : X.calm = true) (hi : EIS X tg iter it) (hg : PG X tg g) (hgt : PP.TG X.K g t vs) (hb : SSs X E body s1)
    (hs : ∀ x, foldedSetIterable iter X.env x = pure x := by intro _; rfl) : SS X E (.For tg iter body [] pos) (sForS it t s1) :=
  ps_imp (ps_for hp hc hi hg hb hs) fun D σ H ⟨ρ, O, F, s, p⟩ => by
    unfold sForS at p
    cases hit : it ρ with
    | none => rw [hit] at p; exact p.elim
    | some z =>
    obtain ⟨ρ1, xs⟩ := z
    rw [hit] at p
    refine ⟨ρ, O, F, s, ρ1, xs, hit, fun J H1 s0 t0 hz hw => ?_⟩
    have p1 : FP X.K E D H1 O F (forL (fun x ρ => thenF (t x ρ).quiet ρ s1) xs ρ1) := FP.later s t0 p
    refine ⟨fun i m σ2 H2 => m + i = xs.length ∧ ∃ ρ2 O2 F2, Sta X.K H2 O2 σ2 ρ2 F2 ∧ Tr H1 O F H2 O2 F2 ∧ FP X.K E D H2 O2 F2 (forL (fun x ρ => thenF (t x ρ).quiet ρ s1) (xs.drop i) ρ2), ⟨xs.length, by omega, ρ1, O, F, s0, .refl, by simpa using p1⟩, ?_⟩
    rintro i m σ2 H2 ⟨hm, ρ2, O2, F2, s2, t2, p2⟩
    obtain ⟨w1, w2⟩ := hw H2 O2 (t2.later s0) i
    by_cases hi : i < xs.length
    · have hdrop : xs.drop i = xs[i] :: xs.drop (i + 1) := List.drop_eq_getElem_cons hi
      rw [hdrop] at p2
      obtain ⟨go, yl⟩ := w1 xs[i] (List.getElem?_eq_getElem hi)
      refine .inr ⟨go, fun σ3 H3 => ∃ ρ3 O3 F3, Sta X.K H3 O3 σ3 ρ3 F3 ∧ Tr H1 O F H3 O3 F3 ∧ FP X.K E D H3 O3 F3 (forL (fun x ρ => thenF (t x ρ).quiet ρ s1) (xs.drop (i + 1)) ρ3), fun σ3 H3 q => ⟨m - 1, by omega, by omega, q⟩, fun x H3 hy => ?_⟩
      obtain ⟨e3, rx⟩ := yl x H3 hy
      have s3 := s2.same e3
      refine hgt.run H3 O2 x xs[i] σ2 ρ2 F2 _ s3 rx ?_
      have p3 : FP X.K E D H2 O2 F2 (match thenF (t xs[i] ρ2).quiet ρ2 s1 with
        | .nx ρ' => forL (fun x ρ => thenF (t x ρ).quiet ρ s1) (xs.drop (i + 1)) ρ'
        | .ct ρ' => forL (fun x ρ => thenF (t x ρ).quiet ρ s1) (xs.drop (i + 1)) ρ'
        | .bk ρ' => .nx ρ'
        | .rt d => .rt d
        | .exc c ρ' => .exc c ρ'
        | .bad => .bad) := p2
      cases q : t xs[i] ρ2 with
      | exc c => rw [q] at p3; exact p3.elim
      | bad => rw [q] at p3; exact p3.elim
      | ok ρ4 =>
        rw [q] at p3
        intro σ4 F4 s4 sub
        have t24 : Tr H2 O2 F2 H3 O2 F4 := .sub sub e3
        refine ⟨ρ4, O2, F4, s4, ?_⟩
        have p4 : FP X.K E D H3 O2 F4 (match s1 ρ4 with
          | .nx ρ' => forL (fun x ρ => thenF (t x ρ).quiet ρ s1) (xs.drop (i + 1)) ρ'
          | .ct ρ' => forL (fun x ρ => thenF (t x ρ).quiet ρ s1) (xs.drop (i + 1)) ρ'
          | .bk ρ' => .nx ρ'
          | .rt d => .rt d
          | .exc c ρ' => .exc c ρ'
          | .bad => .bad) := FP.later s2 t24 p3
        have t14 := t2.trans s0 t24
        cases q5 : s1 ρ4 with
        | nx ρ5 => rw [q5] at p4; exact fun σ5 H5 O5 F5 s5 t5 => ⟨ρ5, O5, F5, s5, t14.trans s0 t5, FP.later s4 t5 p4⟩
        | ct ρ5 => rw [q5] at p4; exact fun σ5 H5 O5 F5 s5 t5 => ⟨ρ5, O5, F5, s5, t14.trans s0 t5, FP.later s4 t5 p4⟩
        | bk ρ5 => rw [q5] at p4; exact p4
        | rt d => rw [q5] at p4; exact p4
        | exc c ρ5 => rw [q5] at p4; exact p4
        | bad => rw [q5] at p4; exact p4
    · rw [List.drop_eq_nil_of_le (by omega)] at p2
      exact .inl ⟨w2 (by omega), p2 σ2 H2 O2 F2 s2 .refl⟩
/-! ### f(a, x.pop()) -/
def mPop2 (F : List D → Res D) (f : Sls → Res D) (i : Nat) : Sls → Option (Sls × List D) := fun ρ => match f ρ with
  | .ok x => match popSl i ρ with
    | some (ρ1, y) => match F [x, y] with
      | .ok (.tup ds) => some (ρ1, ds)
      | .ok (.lst ds) => some (ρ1, ds)
      | _ => none
    | none => none
  | _ => none
theorem Tr.same' {H H1 : Hp} {O : Addr → Prop} {F : List Addr} (e : Same H H1) : Tr H O F H1 O F := .same e
variable {CX : CXT} {n : Nat} {fa : Addr} {fd : FuncData} {ps : List Str} {x y : Str} {p p1 p2 p3 : Pos} {F : List D → Res D} {tg a : Expr} {f : Sls → Res D}
theorem pop_call {G : EX} {K : PySem.W.Frag} {i : Nat} {σ : L2.St} {H : Hp} {R : It → Hp → Prop} (hq : tEIS K (mPop2 F f i) σ H R) :
    iAny K (tCallS (spF K F) G (tCons (tEF K G f) (tCons (tBM0 K "list" rPop (tVar i)) tNil))) σ H R := by
  obtain ⟨ρ, O, FF, s, ρ1, ds, h, q⟩ := hq
  unfold mPop2 at h
  cases e1 : f ρ with
  | exc c => rw [e1] at h; cases h
  | bad => rw [e1] at h; cases h
  | ok dx =>
  rw [e1] at h
  cases e2 : popSl i ρ with
  | none => rw [e2] at h; cases h
  | some z =>
  obtain ⟨ρ2, dy⟩ := z
  rw [e2] at h
  refine ⟨ρ, O, FF, s, ?_⟩
  rw [e1]
  intro v H1 eH rv
  refine pop_reads (s.same eH) e2 fun w H2 s2 t2 rw2 keep => ?_
  refine ⟨[dx, dy], O, .cons (keep _ _ rv) (.cons rw2 .nil), s2.dom, ?_⟩
  have t02 : Tr H O FF H2 O FF := (Tr.same eH).trans s t2
  cases e3 : F [dx, dy] with
  | exc c => simp only [e3] at h; cases h
  | bad => simp only [e3] at h; cases h
  | ok r =>
  simp only [e3] at h ⊢
  intro u H3 e3 ru
  have t03 : Tr H O FF H3 O FF := t02.trans s (.same e3)
  have s3 := s2.same e3
  cases r with
  | tup es =>
    simp only [Option.some.injEq, Prod.mk.injEq] at h
    obtain ⟨h1, h2⟩ := h
    subst h1 h2
    cases ru with
    | tup h z r => exact .inr (.inl ⟨_, _, rfl, h, q _ H3 s3 t03 (by rw [← r.length]; exact z) (wk_tup s3.dom h r)⟩)
  | lst es =>
    simp only [Option.some.injEq, Prod.mk.injEq] at h
    obtain ⟨h1, h2⟩ := h
    subst h1 h2
    cases ru with
    | lst h n z r => exact .inl ⟨_, _, rfl, .inl h, q _ H3 s3 t03 (by rw [← r.length]; exact z) (wk_list s3.dom (.inl ⟨h, n⟩) r)⟩
  | _ => simp at h
theorem ei_pop2 (i : Nat) (G : FnOk X.prog X.w X.K X.mg X.base CX n fa fd ps (spF X.K F)) (hr : Room n X.A) (hm : X.mg x = some (.ref fa)) (hk : PySem.W.keepIn X.K (.ref fa) = true) (hb : Binds X.K fd ps []) (hx : ∀ σ, PassesAt CX X σ (E σ))
    (ha : EF X E a f) (hN : X.N[i]? = some y := by rfl) (hv : Vis X.env.scope y := by first | exact Or.inl rfl | exact Or.inr (Or.inl rfl) | exact Or.inr (Or.inr rfl)) (hd : (y == ("__debug__" : Str)) = false := by decide)
    (hcd : (y == ("__classdict__" : Str)) = false := by decide)
    (hbase : attributeBase (.Name y p1) "pop" X.env (eval (.Name y p1) X.env) = eval (.Name y p1) X.env := by rfl) (hline : (p2.endLine == p3.line) = true := by rfl)
    (hs1 : starEach [.Call (.Attribute (.Name y p1) "pop" p2) [] [] p3] X.env = (false, eval (.Call (.Attribute (.Name y p1) "pop" p2) [] [] p3) X.env) :: starEach [] X.env := by rfl)
    (hg : Gl X x := by rfl) (hdb : (x == ("__debug__" : Str)) = false := by decide)
    (he : starEach (a :: [.Call (.Attribute (.Name y p1) "pop" p2) [] [] p3]) X.env = (false, eval a X.env) :: starEach [.Call (.Attribute (.Name y p1) "pop" p2) [] [] p3] X.env := by rfl)
    (hpl : (backTo pos (starEach [.Call (.Attribute (.Name y p1) "pop" p2) [] [] p3] X.env)).any (·.1) = false := by rfl) :
    EIS X tg (.Call (.Name x p) [a, .Call (.Attribute (.Name y p1) "pop" p2) [] [] p3] [] pos) (mPop2 F f i) :=
  pi_imp (pi_any (pe_callS G hr hg hm hk hb hx (pa_cons ha (pa_cons (pe_bm0 PySem.F.plainAttrs_list PySem.F.slot_list_pop PySem.F.type_list_pop mt_pop (pe_var hN hv hd hcd) hbase hline) pa_nil hs1) he) hdb he hpl)) fun σ H R hq => pop_call hq
end
end PP

namespace PP
open PySem PySem.Spec PyProof.Rows L2
open Res (ok exc bad)
/-! ### * of numbers, a text times a number, a list times a number -/
def dMulX : D → D → Option D
  | .int i, .int j => dMul (.int i) (.int j)
  | .str x, .int k => if x.length ≤ 16 ∧ -1000 ≤ k ∧ k ≤ 1000 then some (.str (Txt.mul x k)) else none
  | .lst xs, .int k => if 0 ≤ k ∧ k ≤ 1000 ∧ xs.length ≤ 1000 then some (.lst (List.replicate k.toNat xs).flatten) else none
  | _, _ => none
def rTxM : R2 := fun x y H Q => ∃ t k, x = .str t ∧ y = .int k ∧ t.length ≤ 16 ∧ -1000 ≤ k ∧ k ≤ 1000 ∧ Q (.str (Txt.mul t k)) H
def rRepS : R2 := fun x y H Q => ∃ l k xs, x = .ref l ∧ y = .int k ∧ Rd H l (.lst xs) ∧ -(2 ^ 63) ≤ k ∧ k < 2 ^ 63 ∧ xs.length * k.toNat ≤ sizeLine ∧
  ∀ p, H p = none → Q (.ref p) (upd H p (.lst (List.replicate k.toNat xs).flatten))
section
variable {X : Cx}
theorem op_txm : OpR X (binaryOp .Mult) rTxM := by
  intro pins s σ H x y v u Q I rx ry h
  obtain ⟨t, k, rfl, rfl, h1, h2, h3, q⟩ := h
  obtain ⟨a, rfl⟩ := rx
  obtain ⟨b, rfl⟩ := ry
  exact SB.mul (mulOk_of 16 1048576 h1 (by omega) (by omega) (by decide) (by decide)) fun t' tk => ⟨.str (Txt.mul t k), H, I.tok _, ⟨_, rfl⟩, q⟩
theorem op_repS : OpR X (binaryOp .Mult) rRepS := by
  intro pins s σ H x y v u Q I rx ry h
  obtain ⟨l, k, xs, rfl, rfl, hH, h1, h2, hz, q⟩ := h
  cases rx
  obtain ⟨t, rfl⟩ := ry
  obtain ⟨hl, its, n, r, e⟩ := hH.ok I.hok
  have len := r.length
  have hlen : its.toArray.size * k.toNat ≤ sizeLine := by rw [List.size_toArray, ← len]; exact hz
  have hcap : ¬ its.toArray.size * k.toNat > (2 ^ 63 - 1) / 8 := by
    have : (sizeLine : Nat) ≤ (2 ^ 63 - 1) / 8 := by decide
    omega
  have hfit : ¬ (!Builtin.List.listFitsIndex k) = true := by
    rw [fitsIndex_both h1 h2]
    exact Bool.false_ne_true
  have hlong : ¬ Builtin.List.listTooLong (its.toArray.size * k.toNat) = true := by
    rw [notLongL hlen]
    exact Bool.false_ne_true
  have hnew : List.foldl (fun x1 x2 => x1 ++ x2) #[] (List.replicate (if its.toArray.isEmpty = true then 0 else k.toNat) its.toArray) = (List.replicate k.toNat its).flatten.toArray := by
    have f0 : ∀ m : Nat, List.foldl (fun x1 x2 => x1 ++ x2) #[] (List.replicate m its.toArray) = (List.replicate m its).flatten.toArray := fun m => by
      simpa using foldl_rep its m []
    rw [f0]
    cases its with
    | nil => simp
    | cons a r' => rw [if_neg (by simp)]
  refine wpAny_binaryOp_repeat_ref (T := "list") (U := "int") (by decide) ⟨_, e, rfl⟩ (fun s' => typeIs_int s' k t) noFill_list_mul F.fills_int_mul F.slot_int_rmul repeat_list F.slot_int_index.lookup
    (call_meets F.slot_int_rmul (typeIs_int s k t) F.entry_int_rmul (F.args_int_rmul_2 _ _) (int___rmul___int_list k t l its.toArray n)
      ⟨e, rfl, ⟨_, e, rfl⟩, call_meets F.slot_list_mul ⟨_, e, rfl⟩ F.entry_list_mul (F.args_list_mul_2 _ _) (AutoListH.list___mul___list_int_3 l its.toArray n k t hfit hcap hlong) ⟨e, ?_⟩⟩)
  rw [hnew]
  exact ⟨.ref _, _, I.lnew (t' := s.toks) (r.rep k.toNat) (by rw [PyProof.Rows.lm_len_rep_flat, Nat.mul_comm]; exact hz), rfl, q _ I.fresh⟩
abbrev rMulX : R2 := fun x y H Q => rI CMul (fun i j => .int (i * j)) x y H Q ∨ rTxM x y H Q ∨ rRepS x y H Q
theorem op_mulX' : OpR X (binaryOp .Mult) rMulX := op_mul.or (op_txm.or op_repS)
theorem o_mulX {K : PySem.W.Frag} : Op2 K rMulX dMulX := by
  intro H O x y dx dy Q dm rx ry q
  unfold dMulX at q
  split at q
  · exact .inl (o_mul H O x y _ _ Q dm rx ry q)
  · rename_i a k
    by_cases c : a.length ≤ 16 ∧ -1000 ≤ k ∧ k ≤ 1000
    · rw [if_pos c] at q; exact .inr (.inl ⟨_, _, rx.str, ry.int, c.1, c.2.1, c.2.2, q _ H (Same.refl H) (.str _)⟩)
    · rw [if_neg c] at q; exact q.elim
  · rename_i xs k
    by_cases c : 0 ≤ k ∧ k ≤ 1000 ∧ xs.length ≤ 1000
    · rw [if_pos c] at q
      obtain ⟨a, vs, rfl, h1, z1, r1⟩ := rx.lstR
      have hz : vs.length * k.toNat ≤ sizeLine := by
        rw [r1.length]
        have a1 : xs.length * k.toNat ≤ 1000 * 1000 := Nat.mul_le_mul c.2.2 (by omega)
        exact Nat.le_trans a1 (Nat.le_trans (by decide) big_line)
      exact .inr (.inr ⟨a, k, vs, rfl, ry.int, h1, by omega, by omega, hz, fun p n => q _ _ (same_new n) (.lst (.inl upd_same) (fun h => (dm p h).1 n) (by rw [len_rep]; exact hz) ((reps_rep r1 k.toNat).same (same_new n)))⟩)
    · rw [if_neg c] at q; exact q.elim
  · exact q.elim
end
end PP

namespace PP
open PySem PySem.Spec PyProof.Rows L2
open Res (ok exc bad)
/-! ### C(..) where __init__ may raise: what is let out may speak of the slots -/
section
variable {X : Cx} {E : EX} {CX : CXT} {n : Nat} {fa : Addr} {fd : FuncData} {ps : List Str} {x : Str} {p pos : Pos} {e : Expr} {es : List Expr} {fs : List (Sls → Res D)} {F : List D → Res D} {c : Str} {C : Addr} {sp : Sp} {t : TA}
def tMakeE (C : Addr) (sp : Sp) (E : EX) (t : TA) : TE := fun σ H Q => t σ H fun vs H1 => ∀ x dx, H1 x = none → H1 dx = none → dx ≠ x →
  sp (.ref x :: vs) (upd (upd H1 dx (.own x)) x (.ins C dx [])) (fun v H2 => v = .non ∧ Q (.ref x) H2) (E σ)
theorem init_run (M : Mk X.K C fa) (G : FnOk X.prog X.w X.K X.mg X.base CX n fa fd ps sp) (hr : Room (n + 1) X.A) (hb : Binds X.K fd ps []) {pins : List (Addr × Obj)} {σ : L2.St} {H : Hp} {s : Shared} {Q : VK} {us : List Value} {vs : List V}
    (hx : PassesAt CX X σ (E σ)) (I : Inv X pins σ H s) (r : Vals vs us)
    (h : ∀ x dx, H x = none → H dx = none → dx ≠ x → sp (.ref x :: vs) (upd (upd H dx (.own x)) x (.ins C dx [])) (fun v H2 => v = .non ∧ Q (.ref x) H2) (E σ)) :
    wpAny (model X.prog X.w) X.A (call (.ref C) us) (EP X pins σ Q) X.xe s := by
  have J := Inv.made (C := C) I
  have q := h (s.heap.objs.size + 1) s.heap.objs.size (I.hok.fresh (by omega)) (I.hok.fresh (by omega)) (fun z => absurd (show s.heap.objs.size = s.heap.objs.size + 1 from z) (by omega))
  have V1 : Vals (V.ref (s.heap.objs.size + 1) :: vs) (Value.ref (s.heap.objs.size + 1) :: us) := .cons rfl r
  have len : ((Value.ref (s.heap.objs.size + 1) :: us) ++ []).length = ps.length := by
    rw [List.append_nil, ← V1.length]; exact G.len _ _ _ _ q
  have B := hb _ (Value.ref (s.heap.objs.size + 1) :: us) J.kIn len
  rw [List.append_nil] at B
  have go := G.run _ X.stack _ _ ⟨Value.ref (s.heap.objs.size + 1) :: us, []⟩ _ _ _ (E σ) (hr.make C us []) (J.env0.make C us []) B V1 q
  refine wpAny_call (make_map I.kIn M.makes M.init (beq_iff_eq.mp M.fn) (codeAny_mono go ?_))
  intro res s' hq
  match res, hq with
  | .error e, hq => exact hx pins _ _ e s' J hq
  | .ok (.ret u), hq =>
    obtain ⟨v, H', I3, rv, ev, q3⟩ := J.after hq
    subst ev
    exact ⟨rv, V.ref (s.heap.objs.size + 1), H', I3, rfl, q3⟩
theorem pe_makeE (M : Mk X.K C fa) (G : FnOk X.prog X.w X.K X.mg X.base CX n fa fd ps sp) (hr : Room (n + 1) X.A) (hg : Gl X x) (hm : X.mg x = some (.ref C)) (hb : Binds X.K fd ps []) (hx : ∀ σ, PassesAt CX X σ (E σ))
    (ha : PA X (e :: es) t) (hdb : (x == ("__debug__" : Str)) = false := by decide) (he : starEach (e :: es) X.env = (false, eval e X.env) :: starEach es X.env := by rfl) (hpl : (backTo pos (starEach es X.env)).any (·.1) = false := by rfl) :
    PE X (.Call (.Name x p) (e :: es) [] pos) (tMakeE C sp E t) :=
  ⟨fun pins s σ H Q I h => wpAny_Call_Name_kw (ld_glob I hg hm (PySem.W.callWith_K (h₀ := X.base) I.ok.mod.kin M.kp
    (thn (ha.run pos pins s σ H _ I h) fun us s1 ⟨vs, H1, I1, r, q⟩ => ⟨I1.kIn, init_run M G hr hb (hx σ) I1 r q⟩) he hpl) hdb)⟩
def mMakeE (F : List D → Res D) (fs : List (Sls → Res D)) : Sls → Res D := fun ρ => mArgs fs ρ >>= F
theorem ef_makeE {fi : Addr → List D → Res D} (M : Mk X.K (He.ga X.K x) fa) (G : FnOk X.prog X.w X.K X.mg X.base CX n fa fd ps (spI X.K x fi)) (hF : ∀ a ds d, F ds = ok d → fi a ds = ok d) (hE : ∀ a ds c, F ds = exc c → fi a ds = exc c) (hr : Room (n + 1) X.A) (hm : X.mg x = some (.ref (He.ga X.K x))) (hb : Binds X.K fd ps []) (hx : ∀ σ, PassesAt CX X σ (E σ))
    (ha : EA X E (e :: es) (mArgs fs)) (hg : Gl X x := by rfl) (hdb : (x == ("__debug__" : Str)) = false := by decide) (he : starEach (e :: es) X.env = (false, eval e X.env) :: starEach es X.env := by rfl) (hpl : (backTo pos (starEach es X.env)).any (·.1) = false := by rfl) :
    EF X E (.Call (.Name x p) (e :: es) [] pos) (mMakeE F fs) :=
  pe_imp (pe_makeE M G hr hg hm hb hx ha hdb he hpl) fun σ H Q ⟨ρ, O, FF, s, p⟩ => ⟨ρ, O, FF, s, p.bind.imp fun ds p1 vs H1 e1 r1 y dx ny ndx nyx => by
    have s1 := s.same e1
    have nO : ¬ O y := fun h => (s1.dom y h).1 ny
    have sm : Same H1 (upd (upd H1 dx (.own y)) y (.ins (He.ga X.K x) dx [])) := (same_new ndx).trans (same_new (by rw [upd_ne (Ne.symm nyx)]; exact ny))
    have old : ∀ H' : Hp, (∀ b o, b ≠ y → upd (upd H1 dx (.own y)) y (.ins (He.ga X.K x) dx []) b = some o → H' b = some o) → Same H H' := fun H' k b o h => by
      have hby : b ≠ y := fun z => by subst z; rw [e1 b o h] at ny; cases ny
      exact k b o hby (sm b o (e1 b o h))
    have pre : Reps X.K (upd (upd H1 dx (.own y)) y (.ins (He.ga X.K x) dx [])) (Ad O y) vs ds := (r1.more ny).same sm
    have dm : Dom (upd (upd H1 dx (.own y)) y (.ins (He.ga X.K x) dx [])) (Ad O y) := fun b hb => by
      rcases hb with hb | hb
      · exact (s1.dom.same sm) b hb
      · subst hb; exact ⟨by rw [upd_same]; exact fun z => (nomatch z), fun ys r => by rcases r with r | ⟨o, r⟩ <;> (rw [upd_same] at r; cases r)⟩
    refine ⟨y, dx, vs, ds, Ad O y, rfl, upd_same, .inr rfl, pre, dm, ?_⟩
    cases q : F ds with
    | ok d =>
      rw [q] at p1
      rw [hF y ds d q]
      exact fun H' k rk => ⟨rfl, p1 _ H' (old H' k) (rk.freeze nO fun _ z => .inl z)⟩
    | exc c =>
      rw [q] at p1
      rw [hE y ds c q]
      exact fun H' k => p1 H' (old H' k)
    | bad => rw [q] at p1; exact p1.elim⟩
end
end PP

namespace PP
open PySem PySem.Spec PyProof.Rows L2
open Res (ok exc bad)
def sParFFN (i j l : Nat) (f g h : Sls → Res D) : Sls → Fl := fun ρ => thenF (f ρ) ρ fun x => thenF (g ρ) ρ fun y => thenF (h ρ) ρ fun z => .nx (((ρ.set i (.fz x)).set j (.fz y)).set l (.ow z))
section
variable {X : Cx} {E : EX} {f g h : Sls → Res D}
theorem ss_parFFN (i j l : Nat) {x y z : Str} {a b c : Expr} {px py pz pt pos : Pos} {kt k2 pt2} (ha : EF X E a f) (hb : EF X E b g) (hd : EN X E c h) (hc : X.calm = true) (hN : X.N.Nodup) (hi : X.N[i]? = some x := by rfl) (hj : X.N[j]? = some y := by rfl) (hl : X.N[l]? = some z := by rfl)
    (hij : i ≠ j := by decide) (hil : i ≠ l := by decide) (hjl : j ≠ l := by decide)
    (hx : X.env.scope.names.lookup x = some .local := by rfl) (hy : X.env.scope.names.lookup y = some .local := by rfl) (hz : X.env.scope.names.lookup z = some .local := by rfl)
    (hw : swappedStores [.Tuple [.Name x px, .Name y py, .Name z pz] kt pt] (.Tuple [a, b, c] k2 pt2) X.env = pure (some [x, y, z]) := by rfl)
    (hs : swapsWithSole [.Tuple [.Name x px, .Name y py, .Name z pz] kt pt] (.Tuple [a, b, c] k2 pt2) pos.line X.env = pure false := by rfl) (h1 : starEach [a, b, c] X.env = (false, eval a X.env) :: starEach [b, c] X.env := by rfl)
    (h2 : starEach [b, c] X.env = (false, eval b X.env) :: starEach [c] X.env := by rfl) (h3 : starEach [c] X.env = (false, eval c X.env) :: starEach [] X.env := by rfl) :
    SS X E (.Assign [.Tuple [.Name x px, .Name y py, .Name z pz] kt pt] (.Tuple [a, b, c] k2 pt2) pos) (sParFFN i j l f g h) :=
  ps_imp (ps_par3 hc hN hi hj hl hij hil hjl hx hy hz (pa_cons ha (pa_cons hb (pa_cons hd pa_nil h3) h2) h1) hw hs) fun D σ H ⟨ρ, O, F, s, p⟩ => ⟨ρ, O, F, s, (FP.po s p).imp fun dx p1 v H1 e1 r1 =>
    ⟨ρ, O, F, s.same e1, ((FP.po s p1).imp fun dy p2 v2 H2 e2 r2 =>
    ⟨ρ, O, F, s.same (e1.trans e2), ((FP.po s p2).imp fun dz p3 u c H3 e3 n r3 => by
      have e13 := (e1.trans e2).trans e3
      have n0 := same_none (e1.trans e2) n
      have hk := r3.2.2
      have s3 := s.add e13 n0 hk.some hk.noTup
      have nF : c ∉ F := fun h => (s.st.owned c h).2 n0
      obtain ⟨F1, g1, g2⟩ := RSt.setF (((r1.same e2).more n).same e3) i s3.st
      obtain ⟨F2, g3, g4⟩ := RSt.setF ((r2.more n).same e3) j g1
      obtain ⟨F3, g5, g6⟩ := RSt.setO r3 l (fun z => nF (g2 _ (g4 _ z))) g3
      exact ⟨v, v2, u, rfl, p3 _ H3 (Ad O c) F3 ⟨g5, s3.dom⟩ ⟨fun b o q _ => e13 b o q, fun b hb => (g6 b hb).elim (fun z => .inr (by rw [z]; exact n0)) (fun z => .inl (g2 b (g4 b z))), fun b hb => .inl (.inl hb), fun b hb => hb.imp id fun z => by rw [z]; exact n0⟩⟩).later (e1.trans e2)⟩).later e1⟩⟩
end
end PP

namespace PP
open PySem PySem.Spec PyProof.Rows L2
open Res (ok exc bad)
/-! ### sorted(d): the keys of a dict -/
mutual
theorem reads_live {h : Heap} : ∀ {v : Value} {d : PyData} {as : List Addr}, Reads h v d as → ∀ a ∈ as, h.get? a ≠ none
  | _, _, _, .none, a, m => by simp at m
  | _, _, _, .bool b, a, m => by simp at m
  | _, _, _, .int i t, a, m => by simp at m
  | _, _, _, .str x t, a, m => by simp at m
  | _, _, _, .list h1 _ _ h4, a, m => by
    rcases List.mem_cons.mp m with e | e
    · rw [e, h1]; simp
    · exact readsAll_live h4 a e
  | _, _, _, .tuple _ _ _ h4, a, m => readsAll_live h4 a m
  | _, _, _, .dict h1 _ _ h4 h5, a, m => by
    rcases List.mem_append.mp m with e | e
    · rcases List.mem_cons.mp e with e | e
      · rw [e, h1]; simp
      · exact readsAll_live h4 a e
    · exact readsAll_live h5 a e
theorem readsAll_live {h : Heap} : ∀ {vs : List Value} {ds : List PyData} {as : List Addr}, ReadsAll h vs ds as → ∀ a ∈ as, h.get? a ≠ none
  | _, _, _, .nil, a, m => by simp at m
  | _, _, _, .cons h1 h2, a, m => by
    rcases List.mem_append.mp m with e | e
    · exact reads_live h1 a e
    · exact readsAll_live h2 a e
end
def rSortedDct (K : PySem.W.Frag) : List V → Hp → VK → Prop := fun vs H Q => ∃ (a : Addr) (ob : Obj) (xs : DX) (bs : List B3), vs = [V.ref a] ∧ H a = some (.ext (DictAt a ob xs)) ∧ bs.map (·.1) = xs.map (fun x : NestedKey × Addr × Value => V.ref x.2.1) ∧ xs.length ≤ sizeLine ∧ (∀ b ∈ bs, Dp K H b.1 b.2.2) ∧ PySem.W.AllAlike (bs.map (·.2.2)) ∧ PySem.W.Sortable (bs.map (·.2.2)) ∧ (∀ b ∈ bs, b.2.2.depth ≤ 60) ∧
  ∀ p, H p = none → Q (.ref p) (upd H p (.lst ((bs.mergeSort (PySem.W.dataLe false (·.2.2))).map (·.1))))
theorem vals_refs : ∀ {xs : DX} {its : List Value}, its.length = xs.length → (∀ (i : Nat) (v : Value), its[i]? = some v → ∃ x : NestedKey × Addr × Value, xs[i]? = some x ∧ v = Value.ref x.2.1) → Vals (xs.map (fun x : NestedKey × Addr × Value => V.ref x.2.1)) its
  | [], [], _, _ => .nil
  | x :: xs, v :: its, hl, h => by
    obtain ⟨y, y1, y2⟩ := h 0 v rfl
    cases y1
    exact .cons y2 (vals_refs (by simpa using hl) fun i v e => by simpa using h (i + 1) v (by simpa using e))
section
variable {X : Cx}
theorem cr_sortedDct (hc : X.calm = true) (hu : X.A.units + 65 < cLine) : CallR X (.builtin "sorted") (rSortedDct X.K) := by
  intro pins s σ H vs us Q I r h
  obtain ⟨a, ob, xs, bs, rfl, e, eb, hz, hd, h1, h2, h3, q⟩ := h
  rw [Vals.ref1 r]
  obtain ⟨⟨g1, g2, g3, es, ep, g4, g5⟩, _⟩ := (show ObjOk X.prog X.w H s.heap a (.ext (DictAt a ob xs)) from I.hok a _ e)
  obtain ⟨lo, hr, hl, hk⟩ := raw_of I e g4
  refine Calls.call_function_entry kind_sorted plain_sorted entry_sorted (args_sorted1 _) ?_
  unfold Builtin.«sorted»
  refine wpAny_bind (m := checkCount "sorted" 1 1 _) (wpAny_pure ?_)
  refine wpAny_bind (PySem.W.kdu_collect (A := X.A.in1) (PySem.KdlSrc.rawDict (prog := X.prog) (w := X.w) (ep := ep) (es := es) lo) (I.ok.hd hc) hr (by rw [hl]; exact hz) fun h' tk acc old it => ?_)
  have lenA : acc.toList.length = xs.length := by rw [Array.length_toList, it.1, hl]
  have rv : Vals (bs.map (·.1)) acc.toList := by
    rw [eb]
    refine vals_refs lenA fun i v ev => ?_
    obtain ⟨hi, e2⟩ := it.2 i v (by rw [← Array.getElem?_toList]; exact ev)
    obtain ⟨x, x1, x2⟩ := hk i hi
    exact ⟨x, x1, by rw [e2, x2]⟩
  obtain ⟨e1, e2⟩ := each_reads I rv hd
  have lenB : bs.length = xs.length := by rw [← List.length_map (f := (·.1)) (as := bs), eb, List.length_map]
  refine wpAny_bind (wpAny_newList ?_ (by rw [lenA]; exact hz))
  have fresh : s.heap.get? h'.objs.size = none := by
    cases z : s.heap.get? h'.objs.size with
    | none => rfl
    | some o => exact absurd (Heap.lt_size (old _ _ z)) (Nat.lt_irrefl _)
  have er : PySem.W.EachIs (fun v (b : B3) => ∃ as, Reads (h'.push { cls := .type "list", data := .seq acc.toList.toArray }) v b.2.2 as ∧ h'.objs.size ∉ as) acc.toList bs :=
    e2.mono fun v b ⟨as, r⟩ => ⟨as, Reads.keeps (fun b o q => Heap.get?_push_of_some _ (old b o q)) r, fun m => reads_live r _ m fresh⟩
  have ho : (h'.push { cls := .type "list", data := .seq acc.toList.toArray }).get? h'.objs.size = some (seqObj "list" acc.toList.toArray 0) := Heap.get?_push_size _ rfl
  refine wpAny_bind (wpAny_holding ?_)
  refine PySem.W.list_sort_data (s := { s with heap := h'.push { cls := .type "list", data := .seq acc.toList.toArray }, toks := tk }) (enc := fun b : B3 => b.2.2) ho e1 er h1 h2 (by rw [lenB]; exact hz) (fun b hb => ?_) fun out lo2 eo => ?_
  · have := h3 b hb
    show X.A.units + 1 + 1 + _ < cLine
    omega
  · refine wpAny_pure ⟨_, rfl, ?_⟩
    obtain ⟨ep2, at2⟩ := sortedHeap_at (out := out.toArray) ho
    have rv2 := each_vals eo
    have hlen : ((bs.mergeSort (PySem.W.dataLe false fun b : B3 => b.2.2)).map (·.1)).length ≤ sizeLine := by rw [List.length_map, List.length_mergeSort, lenB]; exact hz
    refine ⟨.ref _, upd H h'.objs.size (.lst ((bs.mergeSort (PySem.W.dataLe false fun b : B3 => b.2.2)).map (·.1))), Inv.laidN (s := s) (t' := tk) I (fun b u z => ?_) fresh (I.hok.gone fresh) ⟨hlen, out, ep2, rv2, at2⟩, rfl, q _ (I.hok.gone fresh)⟩
    have lt := Heap.lt_size (old b u z)
    have pz : (h'.push { cls := .type "list", data := .seq acc.toList.toArray }).get? b = some u := Heap.get?_push_of_some _ (old b u z)
    rw [sortedHeap_old (Nat.ne_of_lt lt) (Heap.lt_size pz)]
    exact pz
end
end PP
namespace PP
open PySem PySem.Spec PyProof.Rows L2
theorem RepKs.keys {K : PySem.W.Frag} {H : Hp} {O : Addr → Prop} : ∀ {xs : DX} {kvs : List (D × D)}, RepKs K H O xs kvs → Reps K H O (xs.map (fun x : NestedKey × Addr × Value => V.ref x.2.1)) (kvs.map (·.1))
  | _, _, .nil => .nil
  | _, _, .cons r _ _ _ t => .cons r (RepKs.keys t)
def dSortedX : List D → Option D
  | [.dct kvs] => (toPDs (kvs.map (·.1))).bind fun ps => if sortOk ps then some (.lst (sortD (kvs.map (·.1)) ps)) else none
  | ds => dSorted ds
def rSortedX (K : PySem.W.Frag) : List V → Hp → VK → Prop := fun vs H Q => rSortedDct K vs H Q ∨ rSortedD K vs H Q
theorem cr_sortedX {X : Cx} (hc : X.calm = true) (hu : X.A.units + 65 < cLine) : CallR X (.builtin "sorted") (rSortedX X.K) := by
  intro pins s σ H vs us Q I r h
  rcases h with h | h
  · exact cr_sortedDct hc hu pins s σ H vs us Q I r h
  · exact cr_sortedD hu pins s σ H vs us Q I r h
theorem c_sortedX {K : PySem.W.Frag} : Cl1N K (rSortedX K) dSortedX := by
  intro H O vs ds Q dm r q
  unfold dSortedX at q
  split at q
  · rename_i kvs
    obtain ⟨v, rfl, rv⟩ := r.one
    obtain ⟨a, ob, xs, rfl, h1, h2, h3, h4⟩ := rv.dct
    refine .inl ?_
    cases e : toPDs (kvs.map (·.1)) with
    | none => rw [e] at q; exact q.elim
    | some ps =>
      rw [e, Option.bind_some] at q
      by_cases hk : sortOk ps = true
      · rw [if_pos hk] at q
        obtain ⟨k1, k2, k3⟩ := sortOk_ok hk
        obtain ⟨bs, b1, b2, b3, b4⟩ := zip3 h4.keys e
        have hz : xs.length ≤ sizeLine := h2
        refine ⟨a, ob, xs, bs, rfl, h1, b1, hz, fun b hb => (b4 b hb).1, by rw [b3]; exact k1, by rw [b3]; exact k2, fun b hb => k3 _ (by rw [← b3]; exact List.mem_map.mpr ⟨b, hb, rfl⟩), fun p np => q _ p _ (same_new np) np ?_⟩
        have el : sortD (kvs.map (·.1)) ps = (bs.mergeSort (PySem.W.dataLe false fun b : B3 => b.2.2)).map (·.2.1) := by
          unfold sortD
          have z := List.map_mergeSort (r := PySem.W.dataLe false fun b : B3 => b.2.2) (s := PySem.W.dataLe false fun b : D × PyData => b.2) (f := fun b : B3 => b.2) (l := bs) (fun _ _ _ _ => rfl)
          rw [← b2, ← z, List.map_map]
          rfl
        rw [el]
        refine RepN.newL np ?_ (reps_of fun b hb => (b4 b (List.mem_mergeSort.mp hb)).2)
        rw [List.length_map, List.length_mergeSort]
        have : bs.length = xs.length := by rw [← List.length_map (f := (·.1)) (as := bs), b1, List.length_map]
        omega
      · rw [if_neg hk] at q
        exact q.elim
  · exact .inr (c_sortedD H O vs ds Q dm r q)
end PP

namespace PP
open PySem PySem.Spec PyProof.Rows L2
open Res (ok exc bad)
/-! ### a line that is never reached, x = y.pop(), enumerate -/
def sNev : Sls → Fl := fun _ => .bad
theorem ss_nev {X : Cx} {E : EX} {st : Stmt} : SS X E st sNev := ⟨fun _ _ _ _ _ _ ⟨_, _, _, _, p⟩ => p.elim⟩
def sPop (i j : Nat) : Sls → Fl := fun ρ => match popSl i ρ with
  | some (ρ1, d) => .nx (ρ1.set j (.fz d))
  | none => .bad
theorem ss_pop (i j : Nat) {X : Cx} {E : EX} {x y : Str} {p1 p2 p3 pos' pos : Pos} (hN : X.N.Nodup) (hj : X.N[j]? = some x := by rfl) (hx : Loc X.env.scope x := by first | exact Or.inl rfl | exact Or.inr rfl)
    (hs : swapsWith (.Call (.Attribute (.Name y p1) "pop" p2) [] [] p3) (some (.Name x pos')) pos.line X.env = pure false := by rfl) (hf : X.fn x = true ∨ X.env.scope.names.lookup x = some .local := by first | exact .inl rfl | exact .inr rfl | assumption)
    (hi : X.N[i]? = some y := by rfl) (hv : Vis X.env.scope y := by first | exact Or.inl rfl | exact Or.inr (Or.inl rfl) | exact Or.inr (Or.inr rfl)) (hd : (y == ("__debug__" : Str)) = false := by decide) (hcd : (y == ("__classdict__" : Str)) = false := by decide)
    (hbase : attributeBase (.Name y p1) "pop" X.env (eval (.Name y p1) X.env) = eval (.Name y p1) X.env := by rfl) (hline : (p2.endLine == p3.line) = true := by rfl) :
    SS X E (.Assign [.Name x pos'] (.Call (.Attribute (.Name y p1) "pop" p2) [] [] p3) pos) (sPop i j) :=
  ps_imp (ps_set hN hj hx (pe_bm0 PySem.F.plainAttrs_list PySem.F.slot_list_pop PySem.F.type_list_pop mt_pop (pe_var hi hv hd hcd) hbase hline) hs hf) fun D σ H ⟨ρ, O, F, s, p⟩ => by
    unfold sPop at p
    cases e : popSl i ρ with
    | none => rw [e] at p; exact p.elim
    | some z =>
      obtain ⟨ρ1, d⟩ := z
      rw [e] at p
      refine pop_reads s e fun v H' s1 t1 r1 _ => ?_
      obtain ⟨F', h1, h2⟩ := RSt.setF r1 j s1.st
      exact p _ H' O F' ⟨h1, s1.dom⟩ (t1.trans s (.sub h2 (Same.refl _)))
/-! ### enumerate(list) -/
def numD (ds : List D) : List D := (List.range ds.length).map fun i => D.tup [.int (i : Nat), ds.getD i .non]
def mEnum (f : Sls → Res D) : Sls → Res (List D) := fun ρ => f ρ >>= fun d => match d with
  | .lst ds => ok (numD ds)
  | .kl ds => ok (numD ds)
  | _ => bad
theorem wk_enum {K : PySem.W.Frag} {H : Hp} {O : Addr → Prop} {a : Addr} {vs : List V} {ds : List D} (d : Dom H O) (h : SqF K H O a vs) (r : Reps K H O vs ds) : Wk K (Ite K a) (numD ds) H O := by
  intro H2 O2 l i
  have h2 := (l.sqf h).sql
  have r2 := r.later d l
  refine ⟨fun x e => ?_, fun hi => ⟨vs, h2, by rw [r.length]; simpa [numD] using hi⟩⟩
  unfold numD at e
  rw [List.getElem?_map] at e
  obtain ⟨i', hi', e⟩ := Option.map_eq_some_iff.mp e
  have hlt := (List.getElem?_eq_some_iff.mp hi').1
  rw [List.length_range] at hlt
  rw [List.getElem?_range hlt] at hi'
  cases hi'
  subst e
  obtain ⟨v, hv, rv⟩ := r2.get (i := i) (List.getElem?_eq_getElem hlt)
  refine ⟨⟨vs, v, h2, hv⟩, fun u H3 ⟨T, z, e1, n, e3, k⟩ => ?_⟩
  have hz : z = v := Option.some.inj ((k vs h2).symm.trans hv)
  subst e1 e3 hz
  refine ⟨same_new n, ?_⟩
  rw [List.getD_eq_getElem?_getD, List.getElem?_eq_getElem hlt]
  exact .tup (.inl (.inl upd_same)) (by show 2 ≤ sizeLine; decide) (.cons (.int _) (.cons (rv.same (same_new n)) .nil))
theorem ei_enum {X : Cx} {E : EX} {e : Expr} {f : Sls → Res D} {p pos tpos : Pos} {elts : List Expr} {kk : Nat} (hm : X.mg "enumerate" = none) (he : EF X E e f) (hg : Gl X "enumerate" := by rfl) (hs : starEach [e] X.env = [(false, eval e X.env)] := by rfl) :
    EI X E (.Tuple elts kk tpos) (.Call (.Name "enumerate" p) [e] [] pos) (mEnum f) :=
  pi_imp (pi_enum hg hm (pa_cons he pa_nil hs) hs) fun σ H R ⟨ρ, O, F, s, p⟩ => by
    refine ⟨ρ, O, F, s, p.bind.imp fun d p1 v H1 e1 r1 => ?_⟩
    have dm := (s.same e1).dom
    have len : ∀ ds : List D, (numD ds).length = ds.length := fun ds => by simp [numD]
    cases d with
    | lst ds =>
      cases r1 with
      | lst h n z r => exact ⟨_, _, rfl, .inl h, p1 _ H1 e1 (by rw [len, ← r.length]; exact z) (wk_enum dm (.inl ⟨h, n⟩) r)⟩
    | kl ds =>
      cases r1 with
      | kl h z r => exact ⟨_, _, rfl, h.sql, p1 _ H1 e1 (by rw [len, ← r.length]; exact z) (wk_enum dm h r)⟩
    | _ => exact p1.elim
end PP

namespace PP
open PySem PySem.Spec PyProof.Rows L2
open Res (ok exc bad)
/-! ### t[::-1], t a tuple -/
theorem rev_adjust (n : Nat) : Builtin.Slice.sliceAdjust none none (-1) (n : Int) = ((n : Int) - 1, -1) := by
  unfold Builtin.Slice.sliceAdjust
  simp
theorem rev_places (n : Nat) : Builtin.Slice.slicePlaces ((n : Int) - 1) (-1) (-1) = n := by
  unfold Builtin.Slice.slicePlaces
  rw [if_neg (by decide)]
  have e : -(-1 : Int) = 1 := by decide
  rw [e, Int.ediv_one]
  split <;> omega
theorem rev_picks (xs : Array Value) : ((List.range xs.size).filterMap fun (m : Nat) => xs[(((xs.size : Int) - 1) + (m : Int) * (-1)).toNat]?) = xs.toList.reverse := by
  have e : (List.range xs.size).filterMap (fun (m : Nat) => xs[(((xs.size : Int) - 1) + (m : Int) * (-1)).toNat]?) = ((List.range xs.size).map fun m => xs.size - 1 - m).filterMap fun m => xs[m]? := by
    rw [List.filterMap_map]
    congr 1
    funext m
    show xs[(((xs.size : Int) - 1) + (m : Int) * (-1)).toNat]? = xs[xs.size - 1 - m]?
    rw [show (((xs.size : Int) - 1) + (m : Int) * (-1)).toNat = xs.size - 1 - m by omega]
  rw [e, PySem.W.krv_range, List.filterMap_reverse, PySem.W.krv_all]
section
variable {prog : Program} {w : World} {A : Around} {E : Value → Shared → Prop} {s : Shared}
theorem sliceApplied_rev {sl : Addr} {vl vu vs : Value} {n : Nat} {Q : Int × Int × Nat → Shared → Prop} (hs : s.heap.IsSliceOf sl vl vu vs) (pl : IsPart vl none) (pu : IsPart vu none) (ps : IsPart vs (some (-1)))
    (h : Q ((n : Int) - 1, -1, n) s) : wpAny (model prog w) A (Builtin.Slice.sliceApplied (.ref sl) (pure (n : Int))) Q E s := by
  obtain ⟨os, hos, hcs, hds⟩ := id hs
  unfold Builtin.Slice.sliceApplied Builtin.Slice.sliceFields
  refine wpAny_bind (wpAny_bind (wpAny_field hos hds (x := vl) rfl (wpAny_bind (wpAny_field hos hds (x := vu) rfl (wpAny_bind (wpAny_field hos hds (x := vs) rfl (wpAny_pure ?_)))))))
  refine wpAny_bind (HT.slicePart_ ps ?_)
  show wpAny _ _ (if ((-1 : Int) == 0) = true then _ else _) _ _ s
  rw [if_neg (by decide)]
  refine wpAny_bind (HT.slicePart_ pl (wpAny_bind (HT.slicePart_ pu (wpAny_bind (wpAny_pure ?_)))))
  show wpAny _ _ (match Builtin.Slice.sliceAdjust none none (-1) (n : Int) with | (lo, hi) => pure (lo, (-1 : Int), Builtin.Slice.slicePlaces lo hi (-1))) _ _ s
  rw [rev_adjust]
  show wpAny _ _ (pure ((n : Int) - 1, (-1 : Int), Builtin.Slice.slicePlaces ((n : Int) - 1) (-1) (-1))) _ _ s
  rw [rev_places]
  exact wpAny_pure h
theorem getItem_tuple_rev {t sl : Addr} {items : Array Value} {vl vu vs : Value} {Q : Value → Shared → Prop} (ht : IsTup s.heap t items) (hs : s.heap.IsSliceOf sl vl vu vs) (pl : IsPart vl none) (pu : IsPart vu none) (ps : IsPart vs (some (-1)))
    (h : Q (.ref s.heap.objs.size) { s with heap := s.heap.push { cls := .type "tuple", data := .seq items.toList.reverse.toArray } }) (hsz : items.size ≤ sizeLine) : wpAny (model prog w) A (getItem (.ref t) (.ref sl)) Q E s := by
  have hok : sizeOk (.seq items.toList.reverse.toArray) := by
    show items.toList.reverse.toArray.size ≤ sizeLine
    rw [List.size_toArray, List.length_reverse, Array.length_toList]
    exact hsz
  obtain ⟨os, hos, hcs, hds⟩ := id hs
  unfold getItem
  try with_reducible refine wpAny_holding ?_
  first | refine wpAny_bind (wpAny_pure ?_) | skip
  refine wpAny_bind (wpAny_sequenceKey ht.typeIs (by decide) ?_)
  refine wpAny_bind (wpAny_callSpecial?_slot (name := Str.ofString "__getitem__") ht.typeIs PyProof.Rows.slot_tuple_getitem (wpAny_call_entry PyProof.Rows.slot_tuple_getitem ht.typeIs PyProof.Rows.entry_tuple_getitem ?_ (PyProof.Rows.args_tuple_getitem _ _)))
  show wpAny _ _ (Builtin.Tuple.tupleItemsOf (.ref t) >>= _) _ _ s
  refine wpAny_bind (tupleItemsOf_ ht (wpAny_bind (wpAny_typeOf ⟨os, hos, hcs⟩ ?_)))
  rw [if_pos (by decide)]
  refine wpAny_bind (sliceApplied_rev hs pl pu ps ?_)
  show wpAny _ _ (if (((items.size : Int) - 1 == 0) && ((-1 : Int) == 1) && (items.size == items.size)) = true then _ else _) _ _ s
  rw [if_neg (by simp), rev_picks]
  first
    | exact wpAny_bind (m := Builtin.Tuple.tupleExact _) (wpAny_newObj_type (wpAny_pure ⟨_, rfl, wpAny_pure h⟩) hok)
    | exact wpAny_bind (m := Builtin.Tuple.tupleExact _) (wpAny_newObj_type (wpAny_bind (wpAny_pure (wpAny_pure ⟨_, rfl, wpAny_pure h⟩))) hok)
    | exact wpAny_bind (wpAny_bind (m := Builtin.Tuple.tupleExact _) (wpAny_newObj_type (wpAny_pure (wpAny_pure ⟨_, rfl, wpAny_pure h⟩)) hok))
    | exact wpAny_bind (wpAny_bind (m := Builtin.Tuple.tupleExact _) (wpAny_newObj_type (wpAny_pure ⟨_, rfl, wpAny_pure h⟩) hok))
end
def tRevT (K : PySem.W.Frag) (te : TE) : TE := fun σ H Q => te σ H fun x H1 => ∃ a xs, x = .ref a ∧ SqT K H1 a xs ∧ ∀ p, H1 p = none → Q (.ref p) (upd H1 p (.tup xs.reverse))
section
variable {X : Cx}
theorem pe_revT {e : Expr} {te : TE} {k : Nat} {p1 p2 p3 pos : Pos} (he : PE X e te) : PE X (.Subscript e (.Slice none none (some (.UnaryOp .USub (.Constant (.int 1) k p1) p2)) p3) pos) (tRevT X.K te) := by
  refine ⟨fun pins s σ H Q I h => ?_⟩
  refine Subscript_ (thn (he.run pins s σ H _ I h) fun v s1 ⟨x, H1, I1, r1, a, xs, ex, hx, q⟩ => ?_)
  subst ex
  obtain rfl : v = Value.ref a := r1
  have hst : PO X (some (.UnaryOp .USub (.Constant (.int 1) k p1) p2)) (tPart (tUn (rU fun i => .int (-i)) (tC (.int 1)))) := po_some (pe_un un_neg pe_int)
  refine wpAny_Slice (thn (po_none.run pins s1 σ H1 (fun o H2 => o = none ∧ H2 = H1) I1 ⟨rfl, rfl⟩) fun vl s2 ⟨l, H2, I2, pl, el, e2⟩ => ?_)
  subst el e2
  refine thn (po_none.run pins s2 σ H2 (fun o H3 => o = none ∧ H3 = H2) I2 ⟨rfl, rfl⟩) fun vu s3 ⟨u, H3, I3, pu, eu, e3⟩ => ?_
  subst eu e3
  refine thn (hst.run pins s3 σ H3 (fun o H4 => o = some (-1) ∧ H4 = H3) I3 ⟨1, rfl, -1, rfl, rfl, rfl⟩) fun vs s4 ⟨o, H4, I4, ps, eo, e4⟩ => ?_
  subst eo e4
  have I5 : Inv X pins σ H4 { s4 with heap := s4.heap.push { cls := .type "slice", data := .fields #[vl, vu, vs] } } := I4.kept (t' := s4.toks) fun b ob q => Heap.get?_push_of_some _ q
  obtain ⟨its, r, ht, hz⟩ := I5.tuple hx
  have hlen := r.length
  refine tail_any (ops := [.ref a, .ref s4.heap.objs.size]) ht.typeIs (PyProof.Rows.slot_tuple_getitem.lookup) ?_ (by with_unfolding_all rfl)
  refine getItem_tuple_rev ht (Heap.IsSliceOf.new _ vl vu vs) pl pu ps ⟨.ref _, _, I5.laid (t' := s4.toks) (o := .tup xs.reverse) (fun b ob q => Heap.get?_push_of_some _ q) (Nat.le_refl _) ⟨by rw [List.length_reverse]; exact hz, _, r.reverse, IsTup.new _ _⟩, rfl, q _ (I5.hok.fresh (Nat.le_refl _))⟩ (by rw [List.size_toArray]; omega)
end
section
variable {X : Cx} {E : EX} {e : Expr} {f : Sls → Res D}
def dRevT : D → Option D
  | .tup xs => some (.tup xs.reverse)
  | _ => none
theorem ef_revT {k : Nat} {p1 p2 p3 pos : Pos} (he : EB X E e f) : EF X E (.Subscript e (.Slice none none (some (.UnaryOp .USub (.Constant (.int 1) k p1) p2)) p3) pos) (mOp1 dRevT f) :=
  pe_imp (pe_revT he) fun σ H Q ⟨ρ, O, F, s, p⟩ => ⟨ρ, O, F, s, p.bind.imp fun d p1 v H1 e1 r1 => by
    cases d with
    | tup xs =>
      have p2 : VP X.K H1 O Q (some (D.tup xs.reverse)) := p1.vp e1
      obtain ⟨b, rfl⟩ := r1.tupR.refT
      cases r1.tupR with
      | tup h z r => exact ⟨_, _, rfl, h, fun p n => p2 _ _ (same_new n) (.tup (.inl (.inl upd_same)) (by rw [List.length_reverse]; exact z) ((reps_rev r).same (same_new n)))⟩
    | _ => exact p1.elim⟩
end
end PP

namespace PP
open PySem PySem.Spec PyProof.Rows L2
open Res (ok exc bad)
/-! ### {k: v for .. in ..}, the keys tuples -/
section
variable {X : Cx} {pins : List (Addr × Obj)} {σ : L2.St} {H : Hp} {s : Shared} {E : Value → Shared → Prop}
theorem dct_put2 {v y : V} {u r : Value} {D : Addr} {Nx : Hp → Prop} {Q : Unit → Shared → Prop} (hu : X.A.units + 65 < cLine) (I : Inv X pins σ H s) (ry : RelV y u) (rv : RelV v r) (q : rPut X.K (.ref D) y v H Nx) (h : ∀ H' s', Inv X pins σ H' s' → Nx H' → Q () s') :
    wpAny (model X.prog X.w) X.A (dictSet D u r) Q E s := by
  obtain ⟨a, b, ob, xs, kvs, d, k, dv, Z, ea, ey, e, rk, hk, nd, hz, rd, kt, rv2, q3⟩ := q
  cases ea
  subst ey
  obtain rfl : u = Value.ref b := ry
  obtain ⟨h1, h2⟩ := dict_of I e rk hk nd
  obtain ⟨k1, k2, _⟩ := keyT_ok kt
  refine wpAny_dictSet_heap (knd := nestedKind X.prog X.w) (hsz := hz) (show X.A.units + 8 < cLine by omega) ⟨nested_of I rd k1 rfl, k2⟩ h2 fun h' dd' hs => ?_
  obtain ⟨ob2, da2⟩ := dictAt_of h1 dd' (rk.put rd k1 rv rv2).hash
  obtain ⟨o2, es, ep, hq, _, _, _, _, hnd⟩ := id dd'
  exact h _ _ (d_write (ob := .ext (DictAt D ob2 (storedH xs k b r))) I (by rw [e]; exact True.intro) hs ⟨o2, hq⟩ ⟨da2, ⟨o2, hq⟩, dictAt_stab⟩) (q3 r ob2 rv hnd)
end
section
variable {X : Cx}
abbrev oD (D : Addr) : HO := .ext (DictAt D ob0 [])
def tDcx (K : PySem.W.Frag) (wi : TI) (g : L2.TG) (tt : TT) (tk tv : TE) (vs : List Nat) : TE := fun σ H Q => wi σ H fun J H1 => ∀ D, H1 D = none → ∃ W : Nat → Nat → Hp → Prop, (∃ m, W 0 m (upd H1 D (oD D))) ∧ ∀ i m H, W i m H →
  (J.stop i H ∧ Q (.ref D) H) ∨ (J.go i H ∧ ∃ Nx : Hp → Prop, (∀ H', Nx H' → ∃ m', m' < m ∧ W (i + 1) m' H') ∧ ∀ x H', J.yld i H x H' → g x (L2.wipe σ vs) H' fun σ2 H2 => L2.wipe σ2 vs = L2.wipe σ vs ∧ tt σ2 H2 fun b H3 =>
    if b = true then tk σ2 H3 fun y H4 => tv σ2 H4 fun z H5 => rPut K (.ref D) y z H5 Nx else Nx H3)
abbrev BlkAll (X : Cx) (scope : Scope) (P : Cx → Prop) : Prop := ∀ (s : Shared) (H : Hp) (C : Addr) (cl : List (Str × Addr)) (fp : List Addr), P (X.blk s H scope (compEnvC scope cl C X.env) fp)
theorem dcx_core {pins : List (Addr × Obj)} {s : Shared} {σ : L2.St} {H : Hp} {Q : VK} {kx vx tg iter : Expr} {ifs : List Expr} {scope : Scope} {own : List (Str × Nat)} {pos pos' : Pos} {wi : TI} {g : L2.TG} {tt : TT} {tk tv : TE} {use : Option (Value → Sem Unit)} {Qf : Value → Shared → Prop}
    (hu : X.A.units + 65 < cLine) (hc : X.calm = true) (hN : X.N.Nodup) (I : Inv X pins σ H s) (hi : PI X tg iter wi) (ok : BlkOk X.N X.env.scope scope own) (hg : BlkAll X scope fun Y => PG Y tg g) (ht : BlkAll X scope fun Y => PTs Y ifs tt) (hk : BlkAll X scope fun Y => PE Y kx tk) (he : BlkAll X scope fun Y => PE Y vx tv)
    (hs : ∀ x, foldedSetIterable iter X.env x = pure x) (h : tDcx X.K wi g tt tk tv (own.map (·.2)) σ H Q)
    (fin0 : ∀ D C s' m H', Inv X pins σ H' s' → Q (.ref D) H' → s'.heap.Ns C m → FpOk X pins H' C → compPost (model X.prog X.w) X.A X.xe use Qf (.ref D) C (.ok .next) s') :
    wpAny (model X.prog X.w) X.A (comprehension (.DictComp kx vx [⟨tg, iter, ifs, 0⟩] scope pos) scope X.env pos' newDict false (eval iter X.env) use) Qf X.xe s := by
  have frees : ∀ y ∈ scope.names, y.2 = .free → ∃ c, X.env.cells.lookup y.1 = some c := fun y hy e => (ok.free y hy e).elim (fun k => I.ok.has _ (.inl k)) fun k => I.ok.has _ (.inr k)
  refine wpAny_comprehension_free (use := use) rfl hs (closure_ok frees) ok.kind (fun y hy e => by rw [ok.uniq y hy, e]) (thn (hi.run pins s σ H _ I h) fun xv s1 hx => thn hx fun itv s2 ⟨it, fp, tn, J, H2, e, I2, T, st2, f2, q⟩ => ?_)
  subst e
  refine wpAny_newObj_type (newEnv_comp ?_)
  generalize eD : s2.heap.objs.size = D
  have nD : H2 D = none := I2.hok.fresh (Nat.le_of_eq eD)
  obtain ⟨W, ⟨m0, w0⟩, turn⟩ := q D nD
  generalize es3 : ({ s2 with heap := s2.heap.push ob0 } : Shared) = s3
  have h3 : s3.heap = s2.heap.push ob0 := by rw [← es3]
  have I3 : Inv X pins σ (upd H2 D (oD D)) s3 := by
    rw [← es3, ← eD]
    exact I2.laid (t' := s2.toks) (fun b o e => Heap.get?_push_of_some _ e) (Nat.le_refl _) (ext_empty s2.heap I2.big)
  have lt : ∀ b ∈ fp, b < s2.heap.objs.size := fun b hb => let ⟨o, e, _⟩ := T.obj _ _ st2 b hb; Heap.lt_size e
  have f3 : ∀ b ∈ fp, FpOk X pins (upd H2 D (oD D)) b ∧ b < s3.heap.objs.size := fun b hb => by
    refine ⟨⟨?_, (f2 b hb).2⟩, by rw [h3, Heap.size_push]; exact Nat.lt_succ_of_lt (lt b hb)⟩
    rw [upd_ne (by rw [← eD]; exact Nat.ne_of_lt (lt b hb))]
    exact (f2 b hb).1
  have st3 : tn 0 s3.heap := T.keep _ _ _ st2 fun b _ o e => by rw [h3]; exact Heap.get?_push_of_some _ e
  have I4 := block_start I3 ok hN f3
  have pg := hg s3 (upd H2 D (oD D)) s3.heap.objs.size (cellsFrom (s3.heap.objs.size + 1) scope.names (cloFrom X.env.cells scope.names [])) fp
  have pt := ht s3 (upd H2 D (oD D)) s3.heap.objs.size (cellsFrom (s3.heap.objs.size + 1) scope.names (cloFrom X.env.cells scope.names [])) fp
  have pk := hk s3 (upd H2 D (oD D)) s3.heap.objs.size (cellsFrom (s3.heap.objs.size + 1) scope.names (cloFrom X.env.cells scope.names [])) fp
  have pe := he s3 (upd H2 D (oD D)) s3.heap.objs.size (cellsFrom (s3.heap.objs.size + 1) scope.names (cloFrom X.env.cells scope.names [])) fp
  show codeAny _ _ (.compStart (.DictComp kx vx [⟨tg, iter, ifs, 0⟩] scope pos) 0 (.ref it) (.ref D) (compEnvC scope (cellsFrom (s3.heap.objs.size + 1) scope.names (cloFrom X.env.cells scope.names [])) s3.heap.objs.size X.env)) (compPost (model X.prog X.w) X.A X.xe use Qf (.ref D) s3.heap.objs.size) { s3 with heap := pushCells (s3.heap.push { cls := .type "dict", data := .dict #[] }) scope.names }
  have nfp : ∀ b ∈ fp, (upd H2 D (oD D)) b = none := fun b hb => (f3 b hb).1.1
  generalize ece : compEnvC scope (cellsFrom (s3.heap.objs.size + 1) scope.names (cloFrom X.env.cells scope.names [])) s3.heap.objs.size X.env = ce at I4 pg pt pk pe ⊢
  have cL : ce.locals = s3.heap.objs.size := by subst ece; rfl
  generalize eH3 : upd H2 D (oD D) = H3 at I3 I4 pg pt pk pe w0 nfp f3
  generalize es4 : ({ s3 with heap := pushCells (s3.heap.push { cls := .type "dict", data := .dict #[] }) scope.names } : Shared) = s4 at I4 ⊢
  have st4 : tn 0 s4.heap := T.keep _ _ _ st3 fun b _ o e => by rw [← es4]; exact pushCells_keeps _ _ _ _ (Heap.get?_push_of_some _ e)
  let Y : Cx := X.blk s3 H3 scope ce fp
  have fpY : ∀ {σ' : L2.St} {H' : Hp} {s' : Shared}, Inv Y [] σ' H' s' → (∀ b ∈ fp, H' b = none) → ∀ b ∈ fp, FpOk Y [] H' b := fun {σ' H' s'} I' hn b hb =>
    ⟨hn b hb, (I'.ok.exf b hb).1, I'.ok.exfs b hb, .inl hb, fun x c e => (I'.ok.exf b hb).2 x c e, fun p hp => absurd (show p ∈ ([] : List (Addr × Obj)) ++ [] from hp) (by simp)⟩
  let Inn : Nat → Shared → Prop := fun n s' => ∃ i H', Inv Y [] (L2.wipe σ (own.map (·.2))) H' s' ∧ tn i s'.heap ∧ (∀ b ∈ fp, H' b = none) ∧ W i n H'
  have loop : codeAny (model X.prog X.w) X.A (.compLoop (.DictComp kx vx [⟨tg, iter, ifs, 0⟩] scope pos) 0 (.ref it) (.ref D) ce) (compPost (model X.prog X.w) X.A X.xe use Qf (.ref D) s3.heap.objs.size) s4 := by
    refine compLoop_anyD Inn ?_ m0 ⟨0, H3, I4, st4, nfp, w0⟩
    rintro n s5 ⟨i, H5, I5, st5, n5, w5⟩
    rcases turn i n H5 w5 with ⟨stop, qq⟩ | ⟨go, Nx, hNx, step⟩
    · refine thnF (T.done Y rfl rfl rfl hc i [] s5 _ H5 (fun _ _ => False) I5 (fpY I5 n5) st5 stop) fun r s6 ⟨hr, I6⟩ => ?_
      subst hr
      have I7 : Inv X pins σ H5 s6 := I3.call' (ch := fp) I6.os I6.base I6.hok I6.bare fun b hb => let z := (f3 b hb).1; ⟨z.2.2.2.1, z.2.1, z.2.2.2.2.1, z.2.2.2.2.2⟩
      have nC : H5 ce.locals = none := I6.free
      obtain ⟨m, hn, _⟩ := I6.loc
      have hn : s6.heap.Ns ce.locals m := hn
      rw [cL] at hn nC
      exact fin0 D s3.heap.objs.size s6 m H5 I7 qq hn (I3.fpOk (Nat.le_refl _) nC)
    · refine thnF (T.item Y rfl rfl rfl hc i [] s5 _ H5 (fun _ _ => False) I5 (fpY I5 n5) st5 go) fun r s6 ⟨u, hr, h6⟩ => ?_
      subst hr
      refine thnF h6 fun _ s7 ⟨x, H7, I7, r7, y7, st7, n7⟩ => ?_
      have I7' := I7.pinned (fpY I7 n7) (T.obj _ _ st7)
      refine thnF (pg.run _ s7 _ H7 x u _ I7' r7 (step x H7 y7)) fun _ s8 ⟨σ8, H8, I8, hw8, q8⟩ => thnF (pt.run _ s8 σ8 H8 _ I8 q8) fun b s9 ⟨H9, I9, q9⟩ => ?_
      have close : ∀ {s' : Shared} {H' : Hp}, Inv Y ([] ++ pinsAt fp s7.heap) σ8 H' s' → Nx H' → ∃ m, m < n ∧ Inn m s' := fun {s' H'} I' nx => by
        obtain ⟨m', hm, w'⟩ := hNx H' nx
        have keep : ∀ b ∈ fp, ∀ o, s7.heap.get? b = some o → s'.heap.get? b = some o ∧ H' b = none := fun b hb o e => let z := I'.pin (b, o) (List.mem_append_right _ (List.mem_append_right _ (mem_pinsAt hb e))); ⟨z.1, z.2.1⟩
        refine ⟨m', hm, i + 1, H', (I'.unpinned (pins := [])).weak (by rw [← hw8, wipe_length]) (fun j v e => by rw [← hw8] at e; exact (wipe_some e).1), T.keep _ _ _ st7 fun b hb o e => (keep b hb o e).1, fun b hb => ?_, w'⟩
        obtain ⟨o, e, _⟩ := T.obj _ _ st7 b hb
        exact (keep b hb o e).2
      cases b with
      | false => simp only [Bool.false_eq_true, if_false] at q9 ⊢; exact close I9 q9
      | true =>
        simp only [if_true] at q9 ⊢
        exact thnF (pk.run _ s9 σ8 H9 _ I9 q9) fun z s10 ⟨yk, H10, I10, r10, q10⟩ => thnF (pe.run _ s10 σ8 H10 _ I10 q10) fun z2 s11 ⟨yv, H11, I11, r11, qp⟩ => dct_put2 (X := Y) hu I11 r10 r11 qp fun H12 s12 I12 nx => close I12 nx
  exact codeAny_compStart_dict loop (T.self X.A 0 _ _ _ st4 loop)
theorem pe_dcx {kx vx tg iter : Expr} {ifs : List Expr} {scope : Scope} {own : List (Str × Nat)} {pos : Pos} {wi : TI} {g : L2.TG} {tt : TT} {tk tv : TE} (hu : X.A.units + 65 < cLine) (hc : X.calm = true) (hN : X.N.Nodup) (hi : PI X tg iter wi) (ok : BlkOk X.N X.env.scope scope own)
    (hg : BlkAll X scope fun Y => PG Y tg g) (ht : BlkAll X scope fun Y => PTs Y ifs tt) (hk : BlkAll X scope fun Y => PE Y kx tk) (he : BlkAll X scope fun Y => PE Y vx tv) (hs : ∀ x, foldedSetIterable iter X.env x = pure x := by intro _; rfl) :
    PE X (.DictComp kx vx [⟨tg, iter, ifs, 0⟩] scope pos) (tDcx X.K wi g tt tk tv (own.map (·.2))) := by
  refine ⟨fun pins s σ H Q I h => ?_⟩
  rw [arm_eval_DictComp]
  refine dcx_core hu hc hN I hi ok hg ht hk he hs h fun D C s' m H' I' q hn ⟨f0, f1, f2, f3, f4, f5⟩ => ⟨m, hn, fun h'' sb => ⟨.ref D, H', I'.turned (t' := s'.toks) (fun b o hb e => (sb.2 b hb).trans e) f0 f1 f3 f4 f5, rfl, q⟩⟩
end
end PP

namespace PP
open PySem PySem.Spec PyProof.Rows L2
open Res (ok exc bad)
section
variable {X : Cx}
theorem ps_setDcx {i : Nat} {y : Str} {py : Pos} {kx vx tg iter : Expr} {ifs : List Expr} {scope : Scope} {own : List (Str × Nat)} {pos spos : Pos} {wi : TI} {g : L2.TG} {tt : TT} {tk tv : TE} (hu : X.A.units + 65 < cLine) (hc : X.calm = true) (hN : X.N.Nodup) (hy : X.N[i]? = some y) (hyl : X.env.scope.names.lookup y = some .local)
    (hsw : swapsWith (.DictComp kx vx [⟨tg, iter, ifs, 0⟩] scope pos) (some (.Name y py)) spos.line X.env = pure true) (hi : PI X tg iter wi) (ok : BlkOk X.N X.env.scope scope own)
    (hg : BlkAll X scope fun Y => PG Y tg g) (ht : BlkAll X scope fun Y => PTs Y ifs tt) (hk : BlkAll X scope fun Y => PE Y kx tk) (he : BlkAll X scope fun Y => PE Y vx tv) (hs : ∀ x, foldedSetIterable iter X.env x = pure x := by intro _; rfl) :
    PS X (.Assign [.Name y py] (.DictComp kx vx [⟨tg, iter, ifs, 0⟩] scope pos) spos) (tAsg (tDcx X.K wi g tt tk tv (own.map (·.2))) (gName i)) := by
  refine ⟨fun pins s σ H D I h => ?_⟩
  rw [exec_Assign_Name_used _ _ _ _ hsw]
  refine wpAny_bind (wpAny_standAt (wpAny_bind ?_))
  show wpAny _ X.A (do let _ ← comprehension (.DictComp kx vx [⟨tg, iter, ifs, 0⟩] scope pos) scope X.env (firstIterPos [⟨tg, iter, ifs, 0⟩] pos) newDict false (eval iter X.env) (some (assign (.Name y py) X.env))) _ _ s
  refine wpAny_bind (thn (dcx_core (Q := fun x H1 => gName i x σ H1 D.nx) (Qf := fun _ s' => SP X pins D .next s') hu hc hN I hi ok hg ht hk he hs h fun L C s' m H' I' q hn ⟨f0, f1, f2, f3, f4, f5⟩ => ?_) fun _ s' hq => wpAny_pure (wpAny_pure hq))
  show wpAny _ _ (assign (.Name y py) X.env (.ref L)) _ _ _
  refine wpAny_assign_Name (store_ok2 (v := V.ref L) I' hN hy (.inl hyl) rfl (fun s2 I2 ⟨a, sb, ha⟩ => ?_) (.inr hyl))
  exact ⟨m, hn.sameBut sb (ha.elim (fun z => by rw [z]; exact f1) fun z e => f4 y a z e.symm), fun h3 sb3 => ⟨_, H', I2.turned (t' := s2.toks) (fun b o hb e => (sb3.2 b hb).trans e) f0 f1 f3 f4 f5, q⟩⟩
theorem sw_trueD {kx vx : Expr} {gs : List Comprehension} {scope : Scope} {pos py : Pos} {y : Str} {l : Nat} {env : Env} (hk : env.scope.kind = .function) (hy : env.scope.names.lookup y = some .local) (hl : (py.line == pos.line) = true)
    (ha : (scope.names.any fun (n, k) => n == y && (k == .local || k == .cell)) = false) : swapsWith (.DictComp kx vx gs scope pos) (some (.Name y py)) l env = pure true := by
  have hb : env.blockKind = .function := by unfold Env.blockKind; rw [hk]; rfl
  unfold swapsWith
  simp only [hb, show env.kindOf y = some .local from hy, ha, Expr.pos, hl]
  rfl
end
/-! ### what it makes -/
def putsD : List (D × D) → List D → Option (List (D × D))
  | kvs, [] => some kvs
  | kvs, .tup [dk, dv] :: ys => (keyT dk).bind fun k => putsD (putD kvs dk k dv) ys
  | _, _ => none
def mDc (it : Sls → Res (List D)) (vs : List Nat) (t : TgF) (tt : Sls → Res Bool) (tk tv : Sls → Res D) : Sls → Res D := fun ρ =>
  it ρ >>= fun xs => compL (lcStep vs t tt (fun ρ' => tk ρ' >>= fun k => tv ρ' >>= fun v => ok (.tup [k, v])) ρ) xs >>= fun ys => ofO ((putsD [] ys).map .dct)
theorem keysOk_put {kvs : List (D × D)} {dk dv : D} {k : NestedKey} (h : keysOk kvs = true) (hk : keyT dk = some k) : keysOk (putD kvs dk k dv) = true := by
  unfold keysOk at h ⊢
  rw [List.all_eq_true] at h ⊢
  unfold putD
  intro p hp
  split at hp
  · obtain ⟨q, hq, e⟩ := List.mem_map.mp hp
    have := h q hq
    split at e <;> (rw [← e]; exact this)
  · rcases List.mem_append.mp hp with q | q
    · exact h p q
    · rw [List.mem_singleton.mp q, hk]; rfl
theorem dc_go {K : PySem.W.Frag} {J : It} {items ys : List D} {g : L2.TG} {t : TgF} {tt : Sls → Res Bool} {tk tv : Sls → Res D} {vs : List Nat} {σ : L2.St} {H1 : Hp} {O : Addr → Prop} {ρ : Sls} {F : List Addr} {D0 : Addr} {Qd : Hp → Prop} {fin : List (D × D)} (hD : H1 D0 = none)
    (s : Sta K H1 O σ ρ F) (hw : Wk K J items H1 O) (hz : items.length ≤ sizeLine) (hg : PP.TG K g t vs) (hy : compL (lcStep vs t tt (fun ρ' => tk ρ' >>= fun k => tv ρ' >>= fun v => ok (.tup [k, v])) ρ) items = ok ys) (hf : putsD [] ys = some fin)
    (hd : ∀ H2, Same H1 H2 → RepN K H2 (Ad O D0) (.ref D0) (.dct fin) D0 → Qd H2) :
    ∃ W : Nat → Nat → Hp → Prop, (∃ m, W 0 m (upd H1 D0 (oD D0))) ∧ ∀ i m H, W i m H →
      (J.stop i H ∧ Qd H) ∨ (J.go i H ∧ ∃ Nx : Hp → Prop, (∀ H', Nx H' → ∃ m', m' < m ∧ W (i + 1) m' H') ∧ ∀ x H', J.yld i H x H' → g x (L2.wipe σ vs) H' fun σ2 H2 => L2.wipe σ2 vs = L2.wipe σ vs ∧ tET K E0' tt σ2 H2 fun b H3 =>
        if b = true then tEF K E0' tk σ2 H3 fun y H4 => tEF K E0' tv σ2 H4 fun z H5 => rPut K (.ref D0) y z H5 Nx else Nx H3) := by
  let st := lcStep vs t tt (fun ρ' => tk ρ' >>= fun k => tv ρ' >>= fun v => ok (.tup [k, v])) ρ
  let W : Nat → Nat → Hp → Prop := fun i m H2 => m + i = items.length ∧ Same H1 H2 ∧ ∃ ob xs kvs rest, H2 D0 = some (.ext (DictAt D0 ob xs)) ∧ xs.length ≤ i ∧ (xs.map (·.1)).Nodup ∧ RepKs K H2 (Ad O D0) xs kvs ∧ keysOk kvs = true ∧ compL st (items.drop i) = ok rest ∧ putsD kvs rest = some fin
  have key : ∀ H2, Same H1 H2 → (∃ φ, H2 D0 = some (.ext φ)) → Later H1 O H2 (Ad O D0) ∧ Dom H2 (Ad O D0) := by
    intro H2 e2 ⟨φ, hφ⟩
    refine ⟨fun a o h n => ⟨e2 a o h, fun z => z.elim n fun z => by subst z; rw [hD] at h; cases h⟩, fun a h => h.elim (fun h => (s.dom.same e2) a h) fun h => ?_⟩
    subst h
    exact ⟨by rw [hφ]; exact fun z => (nomatch z), noTup_ext hφ⟩
  refine ⟨W, ⟨items.length, by omega, same_new hD, _, [], [], ys, upd_same, Nat.le_refl _, List.nodup_nil, .nil, rfl, by simpa using hy, hf⟩, ?_⟩
  rintro i m H2 ⟨hm, e2, ob, xs, kvs, rest, hx, hlen, nd, hr, hk, hrest, hfin⟩
  obtain ⟨lt, dm⟩ := key H2 e2 ⟨_, hx⟩
  obtain ⟨w1, w2⟩ := hw H2 (Ad O D0) lt i
  by_cases hi : i < items.length
  · obtain ⟨go, yl⟩ := w1 items[i] (List.getElem?_eq_getElem hi)
    rw [show items.drop i = items[i] :: items.drop (i + 1) from List.drop_eq_getElem_cons hi] at hrest
    obtain ⟨r, zs, hstep, hzs, hrest'⟩ := compL_cons hrest
    refine .inr ⟨go, W (i + 1) (m - 1), fun H' w => ⟨m - 1, by omega, w⟩, fun x H3 hyl => ?_⟩
    obtain ⟨e3, rx⟩ := yl x H3 hyl
    have e13 := e2.trans e3
    have hx3 := e3 _ _ hx
    obtain ⟨_, dm3⟩ := key H3 e13 ⟨_, hx3⟩
    have s3 : Sta K H3 (Ad O D0) σ ρ F := ⟨(s.st.more hD).same e13, dm3⟩
    obtain ⟨Fw, sw⟩ := s3.wipe vs
    obtain ⟨ρ1, ht, hstep⟩ := Res.bind_ok (show (t items[i] (wipeS ρ vs) >>= fun ρ' => tt ρ' >>= fun b => if b then (tk ρ' >>= fun k => tv ρ' >>= fun v => ok (D.tup [k, v])) >>= fun y => ok (some y) else ok none) = ok r from hstep)
    obtain ⟨b, htt, hstep⟩ := Res.bind_ok hstep
    refine hg.mono _ _ _ _ _ (fun σ4 H4 q => ⟨wipe_of q.1 q.2.1, q.2.2⟩) (hg.own _ _ _ _ (hg.run H3 (Ad O D0) x items[i] _ _ Fw _ sw rx ?_))
    rw [ht]
    intro σ4 F4 s4 _
    refine ⟨ρ1, Ad O D0, F4, s4, ?_⟩
    rw [htt]
    intro H5 e5
    have e15 := e13.trans e5
    have hx5 := e5 _ _ hx3
    cases b with
    | false =>
      have : r = none := by simpa using hstep.symm
      subst this
      rw [hrest'] at hfin
      exact iteF ⟨by omega, e15, ob, xs, kvs, zs, hx5, by omega, nd, ((hr.same e3).same e5), hk, hzs, hfin⟩
    | true =>
      refine iteT ?_
      obtain ⟨pr, hpr, hstep⟩ := Res.bind_ok (show ((tk ρ1 >>= fun k => tv ρ1 >>= fun v => ok (D.tup [k, v])) >>= fun y => ok (some y)) = ok r from hstep)
      obtain ⟨dk, hdk, hpr⟩ := Res.bind_ok hpr
      obtain ⟨dv, hdv, hpr⟩ := Res.bind_ok hpr
      cases hpr
      cases hstep
      rw [hrest'] at hfin
      obtain ⟨k, hkt, hfin⟩ := Option.bind_eq_some_iff.mp (show ((keyT dk).bind fun k => putsD (putD kvs dk k dv) zs) = some fin from hfin)
      obtain ⟨k1, k2, ts, rfl⟩ := keyT_ok hkt
      refine ⟨ρ1, Ad O D0, F4, s4.same e5, ?_⟩
      rw [hdk]
      intro v H6 e6 rv
      refine ⟨ρ1, Ad O D0, F4, (s4.same e5).same e6, ?_⟩
      rw [hdv]
      intro z H7 e7 rz
      obtain ⟨ba, rfl⟩ := rv.refT
      have hx7 := e7 _ _ (e6 _ _ hx5)
      have hr7 := (((hr.same e3).same e5).same e6).same e7
      have rv7 := rv.same e7
      refine ⟨D0, ba, ob, xs, kvs, .tup ts, k, dv, Ad O D0, rfl, rfl, hx7, hr7, hk, nd, by omega, rv7, hkt, rz, fun u ob2 ru hn => ?_⟩
      have rk := hr7.put rv7 k1 ru rz
      have hl : (storedH xs k ba u).length ≤ i + 1 := by
        rw [rk.length]
        have := putD_len kvs (.tup ts) k dv
        have := hr7.length
        omega
      refine ⟨by omega, fun a o h => ?_, ob2, _, _, zs, upd_same, hl, hn, rk.upd (.inr rfl) (noTup_ext hx7), keysOk_put hk hkt, hzs, hfin⟩
      rw [upd_ne (fun z => by subst z; rw [hD] at h; cases h)]
      exact e7 _ _ (e6 _ _ (e15 _ _ h))
  · rw [List.drop_eq_nil_of_le (by omega)] at hrest
    cases hrest
    cases hfin
    exact .inl ⟨w2 (by omega), hd H2 e2 ⟨rfl, .inr rfl, ob, xs, hx, by omega, nd, hr⟩⟩
section
variable {X : Cx} {E : EX}
theorem dc_reads {own : List (Str × Nat)} {it : Sls → Res (List D)} {g : L2.TG} {t : TgF} {tt : Sls → Res Bool} {tk tv : Sls → Res D} {σ : L2.St} {H : Hp} {Q : VK} (hgt : PP.TG X.K g t (own.map (·.2))) (hq : tEN X.K E (mDc it (own.map (·.2)) t tt tk tv) σ H Q) :
    tDcx X.K (tEI X.K E it) g (tET X.K E0' tt) (tEF X.K E0' tk) (tEF X.K E0' tv) (own.map (·.2)) σ H Q := by
  obtain ⟨ρ, O, F, s, p⟩ := hq
  refine ⟨ρ, O, F, s, p.bind.imp fun xs p1 => ?_⟩
  have p2 : Po X.K E σ H (compL (lcStep (own.map (·.2)) t tt (fun ρ' => tk ρ' >>= fun k => tv ρ' >>= fun v => ok (D.tup [k, v])) ρ) xs >>= fun ys => ofO ((putsD [] ys).map .dct)) fun d => ∀ v a H', Same H H' → H a = none → RepN X.K H' (Ad O a) v d a → Q v H' := p1
  cases q : compL (lcStep (own.map (·.2)) t tt (fun ρ' => tk ρ' >>= fun k => tv ρ' >>= fun v => ok (D.tup [k, v])) ρ) xs with
  | exc c => exact (compL_exc q).elim
  | bad => rw [q] at p2; exact p2.elim
  | ok ys =>
    rw [q] at p2
    have p3 : Po X.K E σ H (ofO ((putsD [] ys).map .dct)) fun d => ∀ v a H', Same H H' → H a = none → RepN X.K H' (Ad O a) v d a → Q v H' := p2
    cases q2 : putsD [] ys with
    | none => rw [q2] at p3; exact p3.elim
    | some fin =>
      rw [q2] at p3
      exact fun J H1 e1 z w D0 hD => dc_go hD (s.same e1) w z hgt q q2 fun H2 e2 r => p3 _ D0 H2 (e1.trans e2) (e1.free hD) r
theorem en_dc {kx vx tg iter : Expr} {ifs : List Expr} {scope : Scope} {own : List (Str × Nat)} {pos : Pos} {it : Sls → Res (List D)} {g : L2.TG} {t : TgF} {tt : Sls → Res Bool} {tk tv : Sls → Res D} (hu : X.A.units + 65 < cLine) (hc : X.calm = true) (hN : X.N.Nodup) (hi : EI X E tg iter it) (ok' : BlkOk X.N X.env.scope scope own) (hgt : PP.TG X.K g t (own.map (·.2)))
    (hg : BlkAll X scope fun Y => PG Y tg g) (ht : BlkAll X scope fun Y => ETs Y E0' ifs tt) (hk : BlkAll X scope fun Y => EF Y E0' kx tk) (he : BlkAll X scope fun Y => EF Y E0' vx tv) (hs : ∀ x, foldedSetIterable iter X.env x = pure x := by intro _; rfl) :
    EN X E (.DictComp kx vx [⟨tg, iter, ifs, 0⟩] scope pos) (mDc it (own.map (·.2)) t tt tk tv) :=
  pe_imp (pe_dcx (tt := tET X.K E0' tt) (tk := tEF X.K E0' tk) (tv := tEF X.K E0' tv) hu hc hN hi ok' hg ht hk he hs) fun σ H Q hq => dc_reads hgt hq
theorem ss_setDcO (i : Nat) {y : Str} {py : Pos} {kx vx tg iter : Expr} {ifs : List Expr} {scope : Scope} {own : List (Str × Nat)} {pos spos : Pos} {it : Sls → Res (List D)} {g : L2.TG} {t : TgF} {tt : Sls → Res Bool} {tk tv : Sls → Res D} (hu : X.A.units + 65 < cLine) (hc : X.calm = true) (hN : X.N.Nodup) (hyl : X.env.scope.names.lookup y = some .local)
    (hsw : swapsWith (.DictComp kx vx [⟨tg, iter, ifs, 0⟩] scope pos) (some (.Name y py)) spos.line X.env = pure true) (hi : EI X E tg iter it) (ok' : BlkOk X.N X.env.scope scope own) (hgt : PP.TG X.K g t (own.map (·.2)))
    (hg : BlkAll X scope fun Y => PG Y tg g) (ht : BlkAll X scope fun Y => ETs Y E0' ifs tt) (hk : BlkAll X scope fun Y => EF Y E0' kx tk) (he : BlkAll X scope fun Y => EF Y E0' vx tv) (hy : X.N[i]? = some y := by rfl) (hs : ∀ x, foldedSetIterable iter X.env x = pure x := by intro _; rfl) :
    SS X E (.Assign [.Name y py] (.DictComp kx vx [⟨tg, iter, ifs, 0⟩] scope pos) spos) (sSetO i (mDc it (own.map (·.2)) t tt tk tv)) :=
  ps_imp (ps_setDcx (tt := tET X.K E0' tt) (tk := tEF X.K E0' tk) (tv := tEF X.K E0' tv) hu hc hN hy hyl hsw hi ok' hg ht hk he hs) fun D σ H hq => dc_reads hgt (setO_reads hq)
theorem ss_setDc (i : Nat) {y : Str} {py : Pos} {kx vx tg iter : Expr} {ifs : List Expr} {scope : Scope} {own : List (Str × Nat)} {pos spos : Pos} {it : Sls → Res (List D)} {g : L2.TG} {t : TgF} {tt : Sls → Res Bool} {tk tv : Sls → Res D} (hu : X.A.units + 65 < cLine) (hc : X.calm = true) (hN : X.N.Nodup) (hyl : X.env.scope.names.lookup y = some .local)
    (hsw : swapsWith (.DictComp kx vx [⟨tg, iter, ifs, 0⟩] scope pos) (some (.Name y py)) spos.line X.env = pure true) (hi : EI X E tg iter it) (ok' : BlkOk X.N X.env.scope scope own) (hgt : PP.TG X.K g t (own.map (·.2)))
    (hg : BlkAll X scope fun Y => PG Y tg g) (ht : BlkAll X scope fun Y => ETs Y E0' ifs tt) (hk : BlkAll X scope fun Y => EF Y E0' kx tk) (he : BlkAll X scope fun Y => EF Y E0' vx tv) (hy : X.N[i]? = some y := by rfl) (hs : ∀ x, foldedSetIterable iter X.env x = pure x := by intro _; rfl) :
    SS X E (.Assign [.Name y py] (.DictComp kx vx [⟨tg, iter, ifs, 0⟩] scope pos) spos) (sSet i (mDc it (own.map (·.2)) t tt tk tv)) :=
  ps_imp (ps_setDcx (tt := tET X.K E0' tt) (tk := tEF X.K E0' tk) (tv := tEF X.K E0' tv) hu hc hN hy hyl hsw hi ok' hg ht hk he hs) fun D σ H hq => dc_reads hgt (en_ef (D' := D) (setF_reads hq))
end
end PP

namespace PP
open PySem PySem.Spec PyProof.Rows L2 TS
open Res (ok exc bad)
/-! ### sorted(set(t)), t a tuple of pairs of small numbers -/
abbrev oSet (w : World) : Obj := { cls := .type "set", dict := none, data := .set #[] 0 (.fresh 0 0 (!w.params.followText "set-order")) }
section
variable {P : Program} {w : World} {A : Around} {E : Value → Shared → Prop} {s : Shared}
/-- what set.__init__ leaves when a tuple of tuples is given -/
def Made (P : Program) (w : World) (ks : List (Addr × List Int)) (s s2 : Shared) : Prop := ∃ h' tk L es ep t, s2 = { s with heap := h', toks := tk } ∧ SetTR P w h' s.heap.objs.size L es ep t ∧ Got ks ks.length L ∧ ∀ b o, s.heap.get? b = some o → h'.get? b = some o
theorem set_from_tuple {l : Addr} {items : Array Value} (ks : List (Addr × List Int)) {Q : Value → Shared → Prop} (hh : A.handled = none) (hl : s.heap.IsTuple l items) (hit : items.toList = ks.map fun p => Value.ref p.1)
    (hk : ∀ p ∈ ks, IsT P w s.heap p.2 p.1) (hfew : ks.length < 64) (hu : A.units + 3 < cLine) (h : ∀ s2, Made P w ks s s2 → Q (.ref s.heap.objs.size) s2) : wpAny (model P w) A (call (.type "set") [.ref l]) Q E s := by
  have len : items.size = ks.length := by rw [← Array.length_toList, hit, List.length_map]
  have ⟨c, tl, hmro⟩ := F.called_set.mro
  have hmade := F.called_set.made
  have hsub := F.called_set.sub
  have nt := F.called_set.notType
  have cc := F.called_set.canCreate
  have hct := F.typeCall_set_1 (.ref l)
  refine wpAny_call (codeAny_of_tree ?_)
  show wpAny _ _ (callAny (.type "set") _) _ _ _
  refine wpAny_pure ⟨Code.quiet_builtin _ (by decide +kernel), codeAny_builtin F.entry_type_call ?_⟩
  rw [Around.under_plain (weight_type_call_type "set" [.ref l] []) rfl]
  repeat (any_goals (first | assumption | wp_step))
  refine codeAny_mono (code_set_led1 (.ref l) (E := E) (Q₁ := fun obj s1 => obj = .ref s.heap.objs.size ∧ s1 = { s with heap := s.heap.push (oSet w) }) ⟨rfl, rfl⟩) fun r s1 hr => ?_
  match r, hr with
  | .error e, hr => exact hr
  | .ok (.ret obj), hr =>
    obtain ⟨rfl, rfl⟩ := hr
    have gS : (s.heap.push (oSet w)).get? s.heap.objs.size = some (oSet w) := Heap.get?_push_size _ rfl
    have tS : Shared.TypeIs { s with heap := s.heap.push (oSet w) } (.ref s.heap.objs.size) "set" := ⟨_, gS, rfl⟩
    have hli := F.called_set.init.lookup
    have hbi := F.called_set.init.bind (.ref s.heap.objs.size)
    repeat (any_goals (first | assumption | wp_step))
    refine codeAny_mono (codeAny_call_builtin (R := wants (fun r s2 => r = .none ∧ Made P w ks s s2) E) F.called_set.init.plain F.entry_set_init (check_set_init_1 tS ?_)) fun r2 s2 hr2 => ?_
    · obtain ⟨⟨ocls, odict, odata, oslots⟩, hol, hcl, nl, hdl⟩ := hl
      simp only at hcl hdl
      subst hcl hdl
      have hol' : (s.heap.push (oSet w)).get? l = some { cls := .type "tuple", dict := odict, data := .seq items nl, slots := oslots } := Heap.get?_push_of_some _ hol
      have hl1 : (s.heap.push (oSet w)).IsTuple l items := ⟨_, hol', rfl, nl, rfl⟩
      have hsls := F.sub_tuple_set
      have hslf := F.sub_tuple_frozenset
      have hne : (Value.type "tuple" == Value.type "dict") = false := by decide
      unfold Builtin.«set.__init__» noKeywords Builtin.Frozenset.updateFrom
      generalize hPI : pyIter = PI
      wp_walk
      subst hPI
      refine wpAny_pyIter_tuple hl1 (wpAny_bind (wpAny_runValue ?_))
      have lS : l < s.heap.objs.size := Heap.lt_size hol
      have pz : (s.heap.push (oSet w)).objs.size = s.heap.objs.size + 1 := Heap.size_push ..
      have nI : l ≠ (s.heap.push (oSet w)).objs.size := by rw [pz]; exact Nat.ne_of_lt (Nat.lt_succ_of_lt lS)
      have nS : s.heap.objs.size ∉ [(s.heap.push (oSet w)).objs.size, l] := by
        rw [pz]
        simp only [List.mem_cons, List.not_mem_nil, or_false, not_or]
        exact ⟨Nat.ne_of_lt (Nat.lt_succ_self _), Nat.ne_of_gt lS⟩
      have hval : ∀ (i : Nat) (v : Value), items[i]? = some v → ∃ p, ks[i]? = some p ∧ v = .ref p.1 := fun i v hv => by
        rw [← Array.getElem?_toList, hit, List.getElem?_map] at hv
        obtain ⟨p, e1, e2⟩ := Option.map_eq_some_iff.mp hv
        exact ⟨p, e1, e2.symm⟩
      have free : ∀ b, s.heap.objs.size ≤ b → s.heap.get? b = none := fun b hb => by
        cases q : s.heap.get? b with
        | none => rfl
        | some o => exact absurd (Heap.lt_size q) (Nat.not_lt_of_le hb)
      have hh3 : A.in1.in1.in1.handled = none := by simp [hh]
      refine set_update_tups ((Walks.tuple hh3 _ l nI items).toS) s.heap.objs.size nS ks len hfew hval s.heap hk (free _ (Nat.le_refl _)) (fun b hb => free b (by rw [List.mem_singleton.mp hb, pz]; exact Nat.le_succ _)) hu (items.size - 0) 0 _ (by omega) (Nat.zero_le _)
        ⟨⟨_, Heap.get?_push_size _ rfl, rfl, rfl⟩, (hl1.push _)⟩ (fun b o e => Heap.get?_push_of_some _ (Heap.get?_push_of_some _ e)) ⟨[], #[], 0, _, setTR_fresh (Heap.get?_push_of_some _ gS), Got.zero ks⟩ fun s' L es ep t hm hS' g' hkp => ?_
      obtain ⟨h', g2, d', tk', os'⟩ := s'
      have eg : g2 = s.gens := hm.gens
      have ed : d' = s.drawn := hm.drawn
      have eo : os' = s.os := hm.os
      subst eg ed eo
      rw [len] at g'
      show wpAny _ _ _ _ _ _
      refine wpAny_pure ?_
      show wpAny _ _ (ret Value.none) _ _ _
      exact wpAny_pure ⟨rfl, h', tk', L, es, ep, t, rfl, hS', g', hkp⟩
    · match r2, hr2 with
      | .error e, hr2 => exact hr2
      | .ok (.ret r), hr2 =>
        obtain ⟨rfl, m⟩ := hr2
        repeat (any_goals (first | assumption | wp_step))
        exact h _ m
end
section
variable {X : Cx}
/-- set(t) of a tuple, as rSetOfT of a list -/
def rSetT (K : PySem.W.Frag) (P : Program) (w : World) : List V → Hp → VK → Prop := fun xs H Q => ∃ (l : Addr) (ks : List (Addr × List Int)), xs = [V.ref l] ∧ SqT K H l (ks.map fun p => V.ref p.1) ∧ (∀ p ∈ ks, SqT K H p.1 (p.2.map V.int)) ∧ ks.length < 64 ∧
  ∀ a L, H a = none → (∀ p ∈ L, p ∈ ks) → (∀ p ∈ ks, p.2 ∈ L.map (·.2)) → Q (.ref a) (upd H a (SetTO P w a L))
theorem cr_setT (hc : X.calm = true) (hu : X.A.units + 65 < cLine) : CallR X (.type "set") (rSetT X.K X.prog X.w) := by
  intro pins s σ H xs us Q I r ⟨l, ks, ex, hl, hk, hf, q⟩
  subst ex
  rw [Vals.ref1 r]
  obtain ⟨its, rv, pl, hz⟩ := I.tuple hl
  refine set_from_tuple (P := X.prog) (w := X.w) ks (I.ok.hd hc) pl (by simpa using refs_of_vals rv) (fun p hp => I.isT (hk p hp)) hf (by omega) fun s2 ⟨h', tk, L, es, ep, t, e, R, g, k⟩ => ?_
  subst e
  exact ⟨.ref s.heap.objs.size, _, I.laid (t' := tk) k (Nat.le_refl _) (setTO_new R.t0), rfl, q _ L (I.hok.fresh (Nat.le_refl _)) (fun p hp => List.mem_of_mem_take (g.sub p hp)) fun p hp => g.all p (by rw [List.take_length]; exact hp)⟩
end
end PP

namespace PP
def leP (a b : Int × Int) : Bool := decide (a.1 < b.1 ∨ (a.1 = b.1 ∧ a.2 ≤ b.2))
def leH (a b : (Int × Int) × Int) : Bool := if a.1 = b.1 then decide (a.2 ≤ b.2) else leP a.1 b.1
end PP

namespace PP
open PySem PySem.Spec PyProof.Rows L2
open Res (ok exc bad)
/-! ### sorted(set(t)) as a rule -/
abbrev PI2 := Int × Int
def nodups : List PI2 → List PI2
  | [] => []
  | p :: ps => if p ∈ nodups ps then nodups ps else p :: nodups ps
theorem mem_nodups {x : PI2} : ∀ {ps : List PI2}, x ∈ nodups ps ↔ x ∈ ps
  | [] => Iff.rfl
  | p :: ps => by
    unfold nodups
    have ih := mem_nodups (x := x) (ps := ps)
    split
    · rename_i h
      rw [ih, List.mem_cons]
      exact ⟨.inr, fun q => q.elim (fun e => by rw [e]; exact mem_nodups.mp h) id⟩
    · rw [List.mem_cons, List.mem_cons, ih]
theorem nd_nodups : ∀ ps : List PI2, (nodups ps).Nodup
  | [] => List.nodup_nil
  | p :: ps => by
    unfold nodups
    split
    · exact nd_nodups ps
    · rename_i h
      exact List.nodup_cons.mpr ⟨h, nd_nodups ps⟩
def below (p : PI2) : Prop := (0 ≤ p.1 ∧ p.1 < 64) ∧ 0 ≤ p.2 ∧ p.2 < 64
instance (p : PI2) : Decidable (below p) := by unfold below; infer_instance
/-- strictly ascending -/
def ltQ (a b : PI2) : Prop := a.1 < b.1 ∨ (a.1 = b.1 ∧ a.2 < b.2)
theorem eq_asc : ∀ (l m : List PI2), l.Pairwise ltQ → m.Pairwise ltQ → (∀ x, x ∈ l ↔ x ∈ m) → l = m
  | [], [], _, _, _ => rfl
  | [], b :: m, _, _, h => absurd ((h b).mpr (by simp)) (by simp)
  | a :: l, [], _, _, h => absurd ((h a).mp (by simp)) (by simp)
  | a :: l, b :: m, hl, hm, h => by
    have l1 := List.pairwise_cons.mp hl
    have m1 := List.pairwise_cons.mp hm
    have irr : ∀ x : PI2, ¬ ltQ x x := fun x => by unfold ltQ; omega
    have e : a = b := by
      rcases List.mem_cons.mp ((h a).mp (by simp)) with q | q
      · exact q
      · rcases List.mem_cons.mp ((h b).mpr (by simp)) with r | r
        · exact r.symm
        · have x := l1.1 b r
          have y := m1.1 a q
          unfold ltQ at x y
          omega
    subst e
    rw [eq_asc l m l1.2 m1.2 fun x => ⟨fun hx => ?_, fun hx => ?_⟩]
    · exact (List.mem_cons.mp ((h x).mp (by simp [hx]))).resolve_left fun e => irr a (e ▸ l1.1 x hx)
    · exact (List.mem_cons.mp ((h x).mpr (by simp [hx]))).resolve_left fun e => irr a (e ▸ m1.1 x hx)
theorem sort_asc {l : List PI2} (nd : l.Nodup) : (l.mergeSort leP).Pairwise ltQ := by
  have tr : ∀ a b c : PI2, leP a b = true → leP b c = true → leP a c = true := fun a b c => by unfold leP; simp only [decide_eq_true_eq]; omega
  have tot : ∀ a b : PI2, (leP a b || leP b a) = true := fun a b => by unfold leP; simp only [Bool.or_eq_true, decide_eq_true_eq]; omega
  have n : (l.mergeSort leP).Pairwise fun a b => a ≠ b := ((List.mergeSort_perm l leP).nodup_iff).mpr nd
  refine ((List.pairwise_mergeSort tr tot l).and n).imp fun {a b} ⟨h, ne⟩ => ?_
  unfold leP at h
  simp only [decide_eq_true_eq] at h
  unfold ltQ
  by_cases e : a.1 = b.1
  · have : a.2 ≠ b.2 := fun f => ne (Prod.ext e f)
    omega
  · omega
def prs : List D → Option (List PI2)
  | [] => some []
  | .tup [.int a, .int b] :: ds => (prs ds).map fun ps => (a, b) :: ps
  | _ => none
theorem prs_eq : ∀ {ds : List D} {ps : List PI2}, prs ds = some ps → ds = ps.map fun p => D.tup [.int p.1, .int p.2]
  | [], _, e => by cases e; rfl
  | .tup [.int a, .int b] :: ds, _, e => by
    obtain ⟨ps, e1, rfl⟩ := Option.map_eq_some_iff.mp (show (prs ds).map (fun ps => (a, b) :: ps) = _ from e)
    rw [prs_eq e1]
    rfl
  | .non :: _, _, e => by cases e
  | .bl _ :: _, _, e => by cases e
  | .int _ :: _, _, e => by cases e
  | .str _ :: _, _, e => by cases e
  | .ty _ :: _, _, e => by cases e
  | .lst _ :: _, _, e => by cases e
  | .kl _ :: _, _, e => by cases e
  | .obj _ _ :: _, _, e => by cases e
  | .dct _ :: _, _, e => by cases e
  | .tup [] :: _, _, e => by cases e
  | .tup [_] :: _, _, e => by simp [prs] at e
  | .tup (_ :: _ :: _ :: _) :: _, _, e => by simp [prs] at e
  | .tup [x, y] :: _, _, e => by
    cases x <;> cases y <;> first | (simp [prs] at e; done) | skip
    obtain ⟨ps, e1, rfl⟩ := Option.map_eq_some_iff.mp e
    rw [prs_eq e1]
    rfl
def dSS : List D → Option D
  | [.tup xs] => (prs xs).bind fun ps => if ps.length < 64 ∧ ∀ p ∈ ps, below p then some (.lst (((nodups ps).mergeSort leP).map fun p => D.tup [.int p.1, .int p.2])) else none
  | _ => none
theorem reps_ks {K : PySem.W.Frag} {H : Hp} {O : Addr → Prop} : ∀ {vs : List V} {ps : List PI2}, Reps K H O vs (ps.map fun p => D.tup [.int p.1, .int p.2]) → ∃ ks : List (Addr × List Int), vs = ks.map (fun q => V.ref q.1) ∧ ks.map (·.2) = ps.map (fun p => [p.1, p.2]) ∧ ∀ q ∈ ks, SqT K H q.1 (q.2.map V.int)
  | _, [], .nil => ⟨[], rfl, rfl, fun _ h => by simp at h⟩
  | _, p :: ps, .cons r t => by
    obtain ⟨ks, e1, e2, e3⟩ := reps_ks t
    cases r with
    | tup h z r =>
      rename_i a ws
      cases r with
      | cons r1 r2 =>
        cases r2 with
        | cons r2 r3 =>
          cases r3
          cases r1
          cases r2
          exact ⟨(a, [p.1, p.2]) :: ks, by rw [e1]; rfl, by rw [List.map_cons, e2]; rfl, fun q hq => by
            rcases List.mem_cons.mp hq with e | e
            · rw [e]; exact h
            · exact e3 q e⟩
theorem ks_reps {K : PySem.W.Frag} {H : Hp} {O : Addr → Prop} : ∀ {L : List (Addr × List Int)} {ps : List PI2}, L.map (·.2) = ps.map (fun p => [p.1, p.2]) → (∀ q ∈ L, SqT K H q.1 (q.2.map V.int)) → Reps K H O (L.map fun q => V.ref q.1) (ps.map fun p => D.tup [.int p.1, .int p.2])
  | [], [], _, _ => .nil
  | [], _ :: _, e, _ => by simp at e
  | _ :: _, [], e, _ => by simp at e
  | q :: L, p :: ps, e, h => by
    simp only [List.map_cons, List.cons.injEq] at e
    have h0 := h q (by simp)
    rw [e.1] at h0
    exact .cons (.tup h0 (by rw [sizeLine_eq]; show 2 ≤ 16777216; decide) (.cons (.int _) (.cons (.int _) .nil))) (ks_reps e.2 fun r hr => h r (by simp [hr]))
theorem two_of {q : List Int} {ps : List PI2} (h : q ∈ ps.map fun p => [p.1, p.2]) : ∃ p ∈ ps, q = [p.1, p.2] := by
  obtain ⟨p, hp, e⟩ := List.mem_map.mp h
  exact ⟨p, hp, e.symm⟩
section
variable {X : Cx} {E : EX}
theorem sset_go {H1 : Hp} {O : Addr → Prop} {Q : VK} {vs : List V} {ds : List D} {P : Program} {w : World} (r : RepBs X.K H1 O vs ds) (q : VN X.K H1 O Q (dSS ds)) :
    rSetT X.K P w vs H1 fun v H2 => rSortedT X.K P w [v] H2 Q := by
  unfold dSS at q
  split at q
  · rename_i xs
    cases ep : prs xs with
    | none => rw [ep] at q; exact q.elim
    | some ps =>
      rw [ep, Option.bind_some] at q
      by_cases hc : ps.length < 64 ∧ ∀ p ∈ ps, below p
      · rw [if_pos hc] at q
        have exs := prs_eq ep
        subst exs
        cases r with
        | cons rb rn =>
        cases rn
        obtain ⟨a, us, rfl, ha, hz, ru⟩ := rb.tup
        obtain ⟨ks, rfl, e2, e3⟩ := reps_ks ru
        have lk : ks.length = ps.length := by
          have := congrArg List.length e2
          simpa using this
        refine ⟨a, ks, rfl, ha, e3, by omega, fun b L nb sub cov => ?_⟩
        have sm : Same H1 (upd H1 b (SetTO P w b L)) := same_new nb
        have in2 : ∀ q ∈ ks, ∃ p ∈ ps, q.2 = [p.1, p.2] := fun q hq => two_of (by rw [← e2]; exact List.mem_map_of_mem hq)
        have sqs : ∀ q ∈ ks, SqT X.K (upd H1 b (SetTO P w b L)) q.1 (q.2.map V.int) := fun q hq => sqt_same sm (e3 q hq)
        refine ⟨b, L, 2, 64, rfl, upd_same, fun q hq => sqs q (sub q hq), by decide, fun q hq => ?_, fun L' c pm nd few asc nc => ?_⟩
        · obtain ⟨p, hp, e⟩ := in2 q (sub q hq)
          obtain ⟨⟨b1, b2⟩, b3, b4⟩ := hc.2 p hp
          rw [e]
          refine ⟨rfl, fun n hn => ?_⟩
          simp only [List.mem_cons, List.not_mem_nil, or_false] at hn
          rcases hn with rfl | rfl
          · exact ⟨b1, b2⟩
          · exact ⟨b3, b4⟩
        · have inL : ∀ q ∈ L', ∃ p ∈ ps, q.2 = [p.1, p.2] := fun q hq => in2 q (sub q (pm.mem_iff.mp hq))
          obtain ⟨ls, els⟩ : ∃ ls : List PI2, L'.map (·.2) = ls.map (fun p => [p.1, p.2]) := by
            clear asc nd pm few
            induction L' with
            | nil => exact ⟨[], rfl⟩
            | cons q L' ih =>
              obtain ⟨ls, e⟩ := ih (fun q hq => inL q (by simp [hq]))
              obtain ⟨p, _, ep⟩ := inL q (by simp)
              exact ⟨p :: ls, by rw [List.map_cons, List.map_cons, e, ep]⟩
          have inj2 : ∀ {p p' : PI2}, [p.1, p.2] = [p'.1, p'.2] → p = p' := fun {p p'} e => by
            injection e with e1 e
            injection e with e2 e
            exact Prod.ext e1 e2
          have memls : ∀ x, x ∈ ls ↔ x ∈ ps := fun x => by
            have : [x.1, x.2] ∈ ls.map (fun p => [p.1, p.2]) ↔ x ∈ ls := ⟨fun h => by obtain ⟨p, hp, e⟩ := two_of h; rw [inj2 e]; exact hp, fun h => List.mem_map.mpr ⟨x, h, rfl⟩⟩
            rw [← this, ← els, (pm.map (·.2)).mem_iff]
            constructor
            · intro h
              obtain ⟨q, hq, e⟩ := List.mem_map.mp h
              obtain ⟨p, hp, e'⟩ := in2 q (sub q hq)
              rw [inj2 (e.symm.trans e')]
              exact hp
            · intro h
              have : [x.1, x.2] ∈ ks.map (·.2) := by rw [e2]; exact List.mem_map.mpr ⟨x, h, rfl⟩
              obtain ⟨q, hq, e⟩ := List.mem_map.mp this
              rw [← e]
              exact cov q hq
          have ndls : ls.Nodup := by
            rw [els] at nd
            exact List.Pairwise.of_map _ (fun a b hab e => hab (by rw [e])) nd
          have ascls : ls.Pairwise ltQ := by
            have a1 : (L'.map (·.2)).Pairwise fun q r => TS.code 64 q ≤ TS.code 64 r := List.pairwise_map.mpr asc
            rw [els, List.pairwise_map] at a1
            refine List.Pairwise.imp_of_mem (fun {x y} hx hy h => ?_) (a1.and ndls)
            obtain ⟨⟨b1, b2⟩, b3, b4⟩ := hc.2 x ((memls x).mp hx)
            obtain ⟨⟨c1, c2⟩, c3, c4⟩ := hc.2 y ((memls y).mp hy)
            exact L2.pair_lt h.1 (fun e => h.2 (inj2 e)) ⟨b1, b2⟩ ⟨b3, b4⟩ ⟨c1, c2⟩ ⟨c3, c4⟩
          have els2 : ls = (nodups ps).mergeSort leP := eq_asc _ _ ascls (sort_asc (nd_nodups ps)) fun x => by
            rw [List.mem_mergeSort, mem_nodups]
            exact memls x
          subst els2
          have cb : c ≠ b := fun e => by rw [e, upd_same] at nc; cases nc
          have sm2 : Same H1 (upd (upd H1 b (SetTO P w b L)) c (.lst (L'.map fun q => V.ref q.1))) := sm.trans (same_new nc)
          have nc1 : H1 c = none := by rw [upd_ne cb] at nc; exact nc
          refine q (.ref c) c _ sm2 nc1 ⟨rfl, .inr rfl, _, upd_same, by rw [List.length_map, sizeLine_eq]; omega, ?_⟩
          exact ks_reps els fun q hq => sqt_same (same_new nc) (sqs q (sub q (pm.mem_iff.mp hq)))
      · rw [if_neg hc] at q
        exact q.elim
  · exact q.elim
theorem en_sset {e : Expr} {f : Sls → Res D} {p p2 pos pos2 : Pos} (hc : X.calm = true) (hu : X.A.units + 65 < cLine) (hm : X.mg "sorted" = none) (hm2 : X.mg "set" = none) (he : EB X E e f) (hg : Gl X "sorted" := by rfl) (hg2 : Gl X "set" := by rfl)
    (hs : starEach [e] X.env = (false, eval e X.env) :: starEach [] X.env := by rfl) (hs2 : starEach [.Call (.Name "set" p2) [e] [] pos2] X.env = (false, eval (.Call (.Name "set" p2) [e] [] pos2) X.env) :: starEach [] X.env := by rfl) :
    EN X E (.Call (.Name "sorted" p) [.Call (.Name "set" p2) [e] [] pos2] [] pos) (mBI dSS [f]) :=
  pe_imp (pe_callB (cr_sortedT hc) hg hm (by decide +kernel) (pa_cons (pe_callTy (cr_setT hc hu) hg2 hm2 (by decide +kernel) (ec_cons he ec_nil hs) (by decide) (by decide) hs rfl) pa_nil hs2) (by decide) (by decide) hs2 rfl) fun σ H Q ⟨ρ, O, FF, s, p⟩ => ⟨ρ, O, FF, s, p.bind.imp fun ds p1 vs H1 e1 r1 => sset_go r1 (p1.vn e1)⟩
end
end PP

namespace PP
open PySem L2
open Res (ok exc bad)
@[simp] theorem dMulX_i (i j : Int) : dMulX (.int i) (.int j) = dMul (.int i) (.int j) := id rfl
@[simp] theorem dLtX_i (i j : Int) : dLtX (.int i) (.int j) = some (.bl (decide (i < j))) := id rfl
@[simp] theorem dLeX_i (i j : Int) : dLeX (.int i) (.int j) = some (.bl (decide (i ≤ j))) := id rfl
@[simp] theorem dGtX_i (i j : Int) : dGtX (.int i) (.int j) = some (.bl (decide (j < i))) := id rfl
@[simp] theorem dGeX_i (i j : Int) : dGeX (.int i) (.int j) = some (.bl (decide (j ≤ i))) := id rfl
@[simp] theorem dLenX_l (xs : List D) : dLenX [.lst xs] = some (.int xs.length) := id rfl
@[simp] theorem dLenX_t (xs : List D) : dLenX [.tup xs] = some (.int xs.length) := id rfl
@[simp] theorem dLenX_k (xs : List D) : dLenX [.kl xs] = some (.int xs.length) := id rfl
namespace W
/-- script many draws seed cell number k -/
noncomputable def b__law_draws : Sls → Fl :=
    (sSeq (sSetO 2 (mLst []))
    (sSeq (sSet 3 (mC (.int 7)))
    (sSeq (sFor (mIt (mSl dSl (mVar 0) mNoPart (mPart (mC (.int 63))))) (tgName 4)
    (sSeq (sSet 5 (mBI dAbs [(mVar 4)]))
    (sSeq (sSet 3 (mOp2 dMod (mBI dInt [(mOp2 dAdd (mOp2 dAdd (mOp2 dMulX (mVar 3) (mC (.int 48271))) (mVar 5)) (mC (.int 11)))]) (mC (.int 2147483647))))
    (sIf (mT (mOp2 dGeX (mVar 5) (mOp2 dPow (mC (.int 10)) (mC (.int 18))))) (sFor (mRng rng1 [(mC (.int 60))]) (tgName 6)
    (sIf (mT (mOp2 dGtX (mVar 5) (mC (.int 0)))) (sSeq (sApp 2 (mOp2 dMod (mBI dInt [(mVar 5)]) (mC (.int 1009))))
    (sSet 5 (mOp2 dDiv (mVar 5) (mC (.int 1009))))) sNx)) (sApp 2 (mOp2 dMod (mOp2 dDiv (mBI dInt [(mOp2 dAdd (mOp2 dMulX (mVar 3) (mC (.int 16807))) (mC (.int 5)))]) (mC (.int 3))) (mC (.int 65521))))))))
    (sSeq (sFor (mRng rng1 [(mVar 1)]) (tgName 6)
    (sIf (mT (mOp2 dLtX (mBI dLenX [(mVarB 2)]) (mVar 1))) (sSeq (sSet 3 (mOp2 dMod (mBI dInt [(mOp2 dAdd (mOp2 dAdd (mOp2 dMulX (mVar 3) (mC (.int 69621))) (mVar 6)) (mC (.int 1)))]) (mC (.int 2147483647))))
    (sApp 2 (mOp2 dMod (mOp2 dDiv (mBI dInt [(mVar 3)]) (mC (.int 7))) (mC (.int 65521))))) sNx))
    (sRet (mSl dSl (mVarB 2) mNoPart (mPart (mVar 1))))))))
noncomputable def F__law_draws : List D → Res D := runF 7 2 b__law_draws
theorem draws_inner {sc many : D} {s4 : Sl} {seed : Int} (ds : List Int) (num : Int) (s6 : Sl) (h0 : 0 ≤ num) (hd : Drawn ds) (hl : ds.length ≤ 10000) :
    ∃ ds' num' s6', forL (fun x ρ => thenF (tgName 6 x ρ).quiet ρ (sIf (mT (mOp2 dGtX (mVar 5) (mC (.int 0)))) (sSeq (sApp 2 (mOp2 dMod (mBI dInt [(mVar 5)]) (mC (.int 1009))))
    (sSet 5 (mOp2 dDiv (mVar 5) (mC (.int 1009))))) sNx)) (rangeD 0 60) (dst sc many ds seed s4 (.fz (.int num)) s6) = .nx (dst sc many ds' seed s4 (.fz (.int num')) s6') ∧ Drawn ds' ∧ ds'.length ≤ ds.length + 60 ∧ 0 ≤ num' := by
  have key := forL_inv (xs := rangeD 0 60) (i := 0) (ρ := dst sc many ds seed s4 (.fz (.int num)) s6) (R := fun i ρ => ∃ ds' num' s6', ρ = dst sc many ds' seed s4 (.fz (.int num')) s6' ∧ Drawn ds' ∧ ds'.length ≤ ds.length + i ∧ 0 ≤ num')
    (step := fun x ρ => thenF (tgName 6 x ρ).quiet ρ (sIf (mT (mOp2 dGtX (mVar 5) (mC (.int 0)))) (sSeq (sApp 2 (mOp2 dMod (mBI dInt [(mVar 5)]) (mC (.int 1009))))
    (sSet 5 (mOp2 dDiv (mVar 5) (mC (.int 1009))))) sNx)) (fun j x ρ hx ⟨ds', num', s6', e, h1, h2, h3⟩ => ?_) ⟨ds, num, s6, rfl, hd, by omega, h0⟩
  · obtain ⟨ρ', e, ds', num', s6', e2, r1, r2, r3⟩ := key
    exact ⟨ds', num', s6', by rw [e, e2], r1, by rw [show (rangeD 0 60).length = 60 by simp [rangeD]] at r2; omega, r3⟩
  · subst e
    have hj : j < 60 := by
      have := (List.getElem?_eq_some_iff.mp hx).1
      simpa [rangeD] using this
    by_cases hp : 0 < num'
    · refine ⟨dst sc many (ds' ++ [num' % 1009]) seed s4 (.fz (.int (num' / 1009))) (.fz x), .inl ?_, _, _, _, rfl, h1.snoc (by omega) (by omega), by simp; omega, by omega⟩
      have happ : sApp 2 (mOp2 dMod (mBI dInt [mVar 5]) (mC (.int 1009))) (dst sc many ds' seed s4 (.fz (.int num')) (.fz x)) = .nx (dst sc many (ds' ++ [num' % 1009]) seed s4 (.fz (.int num')) (.fz x)) := by
        rw [app_go (ds := ds') (d := num' % 1009) rfl (by simp [mOp2, mBI, mArgs, mVar, dst, mC, dMod_i]) (by omega)]
        rfl
      simp only [tgName, Res.quiet_ok, thenF_ok]
      show sIf _ _ _ (dst sc many ds' seed s4 (.fz (.int num')) (.fz x)) = _
      have ht : mT (mOp2 dGtX (mVar 5) (mC (.int 0))) (dst sc many ds' seed s4 (.fz (.int num')) (.fz x)) = ok true := by
        simp [mT, mOp2, mVar, dst, mC, hp]
      simp only [sIf, ht, thenF_ok, if_true, sSeq, happ]
      simp [sSet, mOp2, mVar, mC, dst, dDiv_i]
    · refine ⟨dst sc many ds' seed s4 (.fz (.int num')) (.fz x), .inl ?_, _, _, _, rfl, h1, by omega, h3⟩
      simp only [tgName, Res.quiet_ok, thenF_ok]
      show sIf _ _ _ (dst sc many ds' seed s4 (.fz (.int num')) (.fz x)) = _
      have ht : mT (mOp2 dGtX (mVar 5) (mC (.int 0))) (dst sc many ds' seed s4 (.fz (.int num')) (.fz x)) = ok false := by
        simp [mT, mOp2, mVar, dst, mC, hp]
      simp only [sIf, ht, thenF_ok, if_false, sNx, Bool.false_eq_true]
/-- the first walk's step -/
theorem draws_step {sc many : D} (ds : List Int) (seed c : Int) (s4 s5 s6 : Sl) (hd : Drawn ds) (hl : ds.length ≤ 10000) (h0 : 0 ≤ seed) :
    ∃ ds' seed' s4' s5' s6', thenF (tgName 4 (.int c) (dst sc many ds seed s4 s5 s6)).quiet (dst sc many ds seed s4 s5 s6) (sSeq (sSet 5 (mBI dAbs [(mVar 4)]))
    (sSeq (sSet 3 (mOp2 dMod (mBI dInt [(mOp2 dAdd (mOp2 dAdd (mOp2 dMulX (mVar 3) (mC (.int 48271))) (mVar 5)) (mC (.int 11)))]) (mC (.int 2147483647))))
    (sIf (mT (mOp2 dGeX (mVar 5) (mOp2 dPow (mC (.int 10)) (mC (.int 18))))) (sFor (mRng rng1 [(mC (.int 60))]) (tgName 6)
    (sIf (mT (mOp2 dGtX (mVar 5) (mC (.int 0)))) (sSeq (sApp 2 (mOp2 dMod (mBI dInt [(mVar 5)]) (mC (.int 1009))))
    (sSet 5 (mOp2 dDiv (mVar 5) (mC (.int 1009))))) sNx)) (sApp 2 (mOp2 dMod (mOp2 dDiv (mBI dInt [(mOp2 dAdd (mOp2 dMulX (mVar 3) (mC (.int 16807))) (mC (.int 5)))]) (mC (.int 3))) (mC (.int 65521))))))) = .nx (dst sc many ds' seed' s4' s5' s6') ∧ Drawn ds' ∧ ds'.length ≤ ds.length + 60 ∧ 0 ≤ seed' := by
  have hn : (0 : Int) ≤ (if c < 0 then -c else c) := by split <;> omega
  generalize hN : (if c < 0 then -c else c) = num at hn
  have hs : (0 : Int) ≤ (seed * 48271 + num + 11) % 2147483647 := by omega
  generalize hS : (seed * 48271 + num + 11) % 2147483647 = seed1 at hs
  have e1 : sSet 5 (mBI dAbs [(mVar 4)]) (dst sc many ds seed (.fz (.int c)) s5 s6) = .nx (dst sc many ds seed (.fz (.int c)) (.fz (.int num)) s6) := by
    simp [sSet, mBI, mArgs, mVar, dst, hN]
  have e2 : sSet 3 (mOp2 dMod (mBI dInt [(mOp2 dAdd (mOp2 dAdd (mOp2 dMulX (mVar 3) (mC (.int 48271))) (mVar 5)) (mC (.int 11)))]) (mC (.int 2147483647))) (dst sc many ds seed (.fz (.int c)) (.fz (.int num)) s6) = .nx (dst sc many ds seed1 (.fz (.int c)) (.fz (.int num)) s6) := by
    simp [sSet, mBI, mArgs, mVar, dst, mOp2, mC, dMul_r, dMod_i, hS]
  have e0 : tgName 4 (.int c) (dst sc many ds seed s4 s5 s6) = ok (dst sc many ds seed (.fz (.int c)) s5 s6) := rfl
  rw [e0]
  simp only [Res.quiet_ok, thenF_ok, sSeq, e1, e2]
  have hp : dPow (.int 10) (.int 18) = some (.int (10 ^ 18)) := by
    show (if (0 : Int) ≤ 18 ∧ (18 : Int) ≤ 1000 ∧ (10 : Int).natAbs < 2 ^ 64 then some (D.int (10 ^ (18 : Int).toNat)) else none) = _
    rw [if_pos (by decide)]
    rfl
  by_cases hg : (10 : Int) ^ 18 ≤ num
  · have ht : mT (mOp2 dGeX (mVar 5) (mOp2 dPow (mC (.int 10)) (mC (.int 18)))) (dst sc many ds seed1 (.fz (.int c)) (.fz (.int num)) s6) = ok true := by
      have hg2 : (1000000000000000000 : Int) ≤ num := hg
      simp [mT, mOp2, mVar, dst, mC, hp, hg2]
    simp only [sIf, ht, thenF_ok, if_true]
    have hr : mRng rng1 [(mC (.int 60))] (dst sc many ds seed1 (.fz (.int c)) (.fz (.int num)) s6) = ok (rangeD 0 60) := rfl
    obtain ⟨ds', num', s6', e, r1, r2, r3⟩ := draws_inner (sc := sc) (many := many) (s4 := .fz (.int c)) (seed := seed1) ds num s6 hn hd hl
    refine ⟨ds', seed1, .fz (.int c), .fz (.int num'), s6', ?_, r1, r2, hs⟩
    simp only [sFor, hr, thenF_ok]
    exact e
  · have ht : mT (mOp2 dGeX (mVar 5) (mOp2 dPow (mC (.int 10)) (mC (.int 18)))) (dst sc many ds seed1 (.fz (.int c)) (.fz (.int num)) s6) = ok false := by
      have hg2 : ¬ (1000000000000000000 : Int) ≤ num := hg
      simp [mT, mOp2, mVar, dst, mC, hp, hg2]
    simp only [sIf, ht, thenF_ok, if_false, Bool.false_eq_true]
    refine ⟨ds ++ [(seed1 * 16807 + 5) / 3 % 65521], seed1, _, _, _, (app_go (ds := ds) (d := (seed1 * 16807 + 5) / 3 % 65521) rfl (by simp [mOp2, mBI, mArgs, mVar, dst, mC, dMul_r, dMod_i, dDiv_i]) (by omega)).trans rfl, hd.snoc (by omega) (by omega), by simp, hs⟩
/-- the second walk's step -/
theorem draws_step2 {sc : D} (many : Nat) (ds : List Int) (seed : Int) (k : Nat) (s4 s5 s6 : Sl) (hd : Drawn ds) (hl : ds.length ≤ 10000) (h0 : 0 ≤ seed) :
    ∃ ds' seed' s6', thenF (tgName 6 (.int (0 + (k : Int))) (dst sc (.int many) ds seed s4 s5 s6)).quiet (dst sc (.int many) ds seed s4 s5 s6) (sIf (mT (mOp2 dLtX (mBI dLenX [(mVarB 2)]) (mVar 1))) (sSeq (sSet 3 (mOp2 dMod (mBI dInt [(mOp2 dAdd (mOp2 dAdd (mOp2 dMulX (mVar 3) (mC (.int 69621))) (mVar 6)) (mC (.int 1)))]) (mC (.int 2147483647))))
    (sApp 2 (mOp2 dMod (mOp2 dDiv (mBI dInt [(mVar 3)]) (mC (.int 7))) (mC (.int 65521))))) sNx) = .nx (dst sc (.int many) ds' seed' s4 s5 s6') ∧ Drawn ds' ∧ ds'.length = (if ds.length < many then ds.length + 1 else ds.length) ∧ 0 ≤ seed' := by
  have e0 : tgName 6 (.int (0 + (k : Int))) (dst sc (.int many) ds seed s4 s5 s6) = ok (dst sc (.int many) ds seed s4 s5 (.fz (.int (0 + (k : Int))))) := rfl
  rw [e0]
  simp only [Res.quiet_ok, thenF_ok]
  by_cases hm : ds.length < many
  · have ht : mT (mOp2 dLtX (mBI dLenX [(mVarB 2)]) (mVar 1)) (dst sc (.int many) ds seed s4 s5 (.fz (.int (0 + (k : Int))))) = ok true := by
      simp [mT, mOp2, mBI, mArgs, mVarB, mVar, dst, hm]
    have hs : (0 : Int) ≤ (seed * 69621 + (0 + (k : Int)) + 1) % 2147483647 := by omega
    generalize hS : (seed * 69621 + (0 + (k : Int)) + 1) % 2147483647 = seed1 at hs
    have e2 : sSet 3 (mOp2 dMod (mBI dInt [(mOp2 dAdd (mOp2 dAdd (mOp2 dMulX (mVar 3) (mC (.int 69621))) (mVar 6)) (mC (.int 1)))]) (mC (.int 2147483647))) (dst sc (.int many) ds seed s4 s5 (.fz (.int (0 + (k : Int))))) = .nx (dst sc (.int many) ds seed1 s4 s5 (.fz (.int (0 + (k : Int))))) := by
      rw [← hS]
      simp [sSet, mBI, mArgs, mVar, dst, mOp2, mC, dMul_r, dMod_i]
    simp only [sIf, ht, thenF_ok, if_true, sSeq, e2]
    refine ⟨ds ++ [seed1 / 7 % 65521], seed1, _, (app_go (ds := ds) (d := seed1 / 7 % 65521) rfl (by simp [mOp2, mBI, mArgs, mVar, dst, mC, dMod_i, dDiv_i]) (by omega)).trans rfl, hd.snoc (by omega) (by omega), by simp [hm], hs⟩
  · have ht : mT (mOp2 dLtX (mBI dLenX [(mVarB 2)]) (mVar 1)) (dst sc (.int many) ds seed s4 s5 (.fz (.int (0 + (k : Int))))) = ok false := by
      simp [mT, mOp2, mBI, mArgs, mVarB, mVar, dst, hm]
    simp only [sIf, ht, thenF_ok, if_false, Bool.false_eq_true, sNx]
    exact ⟨ds, seed, _, rfl, hd, by rw [if_neg hm], h0⟩
theorem draws_ok (ns : List Int) (many : Nat) (hm : many ≤ 1000) : ∃ ds : List Int, F__law_draws [.kl (ns.map .int), .int many] = ok (.lst (ds.map .int)) ∧ ds.length = many ∧ Drawn ds := by
  let sc : D := .kl (ns.map .int)
  have e1 : sSetO 2 (mLst []) (startS 7 [sc, .int many]) = .nx [.fz sc, .fz (.int many), .ow (.lst []), .no, .no, .no, .no] := rfl
  have e2 : sSet 3 (mC (.int 7)) [.fz sc, .fz (.int many), .ow (.lst []), .no, .no, .no, .no] = .nx (dst sc (.int many) [] 7 .no .no .no) := rfl
  have ei : mIt (mSl dSl (mVar 0) mNoPart (mPart (mC (.int 63)))) (dst sc (.int many) [] 7 .no .no .no) = ok ((ns.take 63).map .int) := by
    have : dSl sc none (some 63) = some (.lst ((ns.take 63).map .int)) := by
      show some (D.lst (cutD (ns.map .int) none (some 63))) = _
      rw [cutD_to (by decide), ← List.map_take]
      rfl
    simp [mIt, mSl, mVar, dst, mNoPart, mPart, mC, this, items]
  obtain ⟨ρ1, f1, ds1, seed1, s4, s5, s6, r1, r2, r3, r4⟩ := forL_inv (xs := (ns.take 63).map .int) (i := 0) (ρ := dst sc (.int many) [] 7 .no .no .no)
    (step := fun x ρ => thenF (tgName 4 x ρ).quiet ρ (sSeq (sSet 5 (mBI dAbs [(mVar 4)]))
    (sSeq (sSet 3 (mOp2 dMod (mBI dInt [(mOp2 dAdd (mOp2 dAdd (mOp2 dMulX (mVar 3) (mC (.int 48271))) (mVar 5)) (mC (.int 11)))]) (mC (.int 2147483647))))
    (sIf (mT (mOp2 dGeX (mVar 5) (mOp2 dPow (mC (.int 10)) (mC (.int 18))))) (sFor (mRng rng1 [(mC (.int 60))]) (tgName 6)
    (sIf (mT (mOp2 dGtX (mVar 5) (mC (.int 0)))) (sSeq (sApp 2 (mOp2 dMod (mBI dInt [(mVar 5)]) (mC (.int 1009))))
    (sSet 5 (mOp2 dDiv (mVar 5) (mC (.int 1009))))) sNx)) (sApp 2 (mOp2 dMod (mOp2 dDiv (mBI dInt [(mOp2 dAdd (mOp2 dMulX (mVar 3) (mC (.int 16807))) (mC (.int 5)))]) (mC (.int 3))) (mC (.int 65521))))))))
    (R := fun i ρ => ∃ ds seed s4 s5 s6, ρ = dst sc (.int many) ds seed s4 s5 s6 ∧ Drawn ds ∧ ds.length ≤ 60 * i ∧ 0 ≤ seed) (fun j x ρ hx ⟨ds, seed, s4, s5, s6, e, h1, h2, h3⟩ => by
      have hj : j < 63 := by
        have := (List.getElem?_eq_some_iff.mp hx).1
        simp at this
        omega
      rw [List.getElem?_map] at hx
      obtain ⟨c, hc, rfl⟩ := Option.map_eq_some_iff.mp hx
      subst e
      obtain ⟨ds', seed', s4', s5', s6', q, q1, q2, q3⟩ := draws_step (sc := sc) (many := .int many) ds seed c s4 s5 s6 h1 (by omega) h3
      exact ⟨_, .inl q, ds', seed', s4', s5', s6', rfl, q1, by omega, q3⟩) ⟨[], 7, .no, .no, .no, rfl, fun d h => by simp at h, by simp, by decide⟩
  have hl : ds1.length ≤ 60 * 63 := by
    have : ((ns.take 63).map D.int).length ≤ 63 := by simp; omega
    omega
  have er : mRng rng1 [(mVar 1)] (dst sc (.int many) ds1 seed1 s4 s5 s6) = ok (rangeD 0 many) := by
    have : rng1 [.int (many : Int)] = some (rangeD 0 many) := by
      show (if (many : Int) ≤ 1000000 ∧ -1000000 ≤ (many : Int) then some (rangeD 0 (many : Int).toNat) else none) = _
      rw [if_pos (by omega)]
      rfl
    simp [mRng, mArgs, mVar, dst, this]
  obtain ⟨ρ2, f2, ds2, seed2, t6, w1, w2, w3, w4, w5⟩ := forL_inv (xs := rangeD 0 many) (i := 0) (ρ := dst sc (.int many) ds1 seed1 s4 s5 s6)
    (step := fun x ρ => thenF (tgName 6 x ρ).quiet ρ (sIf (mT (mOp2 dLtX (mBI dLenX [(mVarB 2)]) (mVar 1))) (sSeq (sSet 3 (mOp2 dMod (mBI dInt [(mOp2 dAdd (mOp2 dAdd (mOp2 dMulX (mVar 3) (mC (.int 69621))) (mVar 6)) (mC (.int 1)))]) (mC (.int 2147483647))))
    (sApp 2 (mOp2 dMod (mOp2 dDiv (mBI dInt [(mVar 3)]) (mC (.int 7))) (mC (.int 65521))))) sNx))
    (R := fun i ρ => ∃ ds seed s6, ρ = dst sc (.int many) ds seed s4 s5 s6 ∧ Drawn ds ∧ (i ≤ ds.length ∨ many ≤ ds.length) ∧ ds.length ≤ max ds1.length many ∧ 0 ≤ seed) (fun j x ρ hx ⟨ds, seed, s6, e, h1, h2, h3, h4⟩ => by
      rw [rangeD_map, List.getElem?_map] at hx
      obtain ⟨c, hc, rfl⟩ := Option.map_eq_some_iff.mp hx
      subst e
      obtain ⟨ds', seed', s6', q, q1, q2, q3⟩ := draws_step2 (sc := sc) many ds seed c s4 s5 s6 h1 (by have := Nat.max_le.mpr ⟨(by omega : ds1.length ≤ 10000), (by omega : many ≤ 10000)⟩; omega) h4
      refine ⟨_, .inl q, ds', seed', s6', rfl, q1, ?_, ?_, q3⟩
      · split at q2 <;> omega
      · have a1 := Nat.le_max_right ds1.length many
        split at q2 <;> omega) ⟨ds1, seed1, s6, rfl, r2, .inl (Nat.zero_le _), Nat.le_max_left _ _, r4⟩
  have hlen : many ≤ ds2.length := by
    have : (rangeD 0 many).length = many := by simp [rangeD]
    rw [this] at w3
    omega
  refine ⟨ds2.take many, ?_, by simp; omega, fun d hd => w2 d (List.mem_of_mem_take hd)⟩
  refine runF_rt ?_
  have eb : b__law_draws (startS 7 [sc, .int many]) = .rt (.lst ((ds2.take many).map .int)) := by
    unfold b__law_draws
    simp only [sSeq, e1, e2, sFor, ei, thenF_ok, f1, r1, er, f2, w1]
    have : dSl (.lst (ds2.map .int)) none (some (many : Int)) = some (.lst ((ds2.take many).map .int)) := by
      show some (D.lst (cutD (ds2.map .int) none (some (many : Int)))) = _
      rw [cutD_to (by omega), ← List.map_take]
      rfl
    simp [sRet, mSl, mVarB, mVar, dst, mNoPart, mPart, this]
  exact eb
end W
end PP

namespace PP
open PySem L2
open Res (ok exc bad)
section
variable {ρ : Sls} {f g : Sls → Res D} {d : D} {i : Nat}
theorem var_ev (h : ρ[i]? = some (.fz d)) : mVar i ρ = ok d := by
  unfold mVar
  rw [h]
theorem varB_fz (h : ρ[i]? = some (.fz d)) : mVarB i ρ = ok d := by
  unfold mVarB
  rw [h]
theorem varB_ow (h : ρ[i]? = some (.ow d)) : mVarB i ρ = ok d := by
  unfold mVarB
  rw [h]
theorem varB_me {a : Addr} (h : ρ[i]? = some (.me a d)) : mVarB i ρ = ok d := by
  unfold mVarB
  rw [h]
theorem c_ev : mC d ρ = ok d := rfl
theorem makeE_ev {F : List D → Res D} {fs : List (Sls → Res D)} {as : List D} {r : Res D} (w1 : mArgs fs ρ = ok as) (e : F as = r) : mMakeE F fs ρ = r := by
  unfold mMakeE
  rw [w1, Res.ok_bind, e]
theorem fld_ev {cs : List Str} {a c : Str} {gs : List (Str × D)} (w : f ρ = ok (.obj c gs)) (h : mFld cs a f ρ = ok d) : mFld cs a f ρ = ok d := h
end
end PP

namespace PP
open PySem L2
open Res (ok exc bad)
theorem toPDs_map {α : Type} {e : α → D} {q : α → PyData} : ∀ {as : List α}, (∀ a ∈ as, toPD (e a) = some (q a)) → toPDs (as.map e) = some (as.map q)
  | [], _ => by simp [toPDs]
  | a :: as, h => by
    simp only [List.map_cons, toPDs]
    rw [h a (by simp), toPDs_map fun x hx => h x (by simp [hx])]
    rfl
theorem zip_map2 {α β γ : Type} {e : α → β} {q : α → γ} : ∀ {as : List α}, (as.map e).zip (as.map q) = as.map fun a => (e a, q a)
  | [] => rfl
  | a :: as => by simp only [List.map_cons, List.zip_cons_cons, zip_map2]
theorem sortD_map {α : Type} {e : α → D} {q : α → PyData} {le : α → α → Bool} {as : List α} (hle : ∀ a ∈ as, ∀ b ∈ as, le a b = PySem.W.dataLe false (fun b : D × PyData => b.2) (e a, q a) (e b, q b)) : sortD (as.map e) (as.map q) = (as.mergeSort le).map e := by
  unfold sortD
  rw [zip_map2, ← List.map_mergeSort (r := le) (f := fun a => (e a, q a)) hle, List.map_map]
  rfl
theorem dSortedX_map {α : Type} {e : α → D} {q : α → PyData} {le : α → α → Bool} {as : List α} (h1 : ∀ a ∈ as, toPD (e a) = some (q a)) (h2 : sortOk (as.map q) = true) (hle : ∀ a ∈ as, ∀ b ∈ as, le a b = PySem.W.dataLe false (fun b : D × PyData => b.2) (e a, q a) (e b, q b)) :
    dSortedX [.lst (as.map e)] = some (.lst ((as.mergeSort le).map e)) := by
  show ((toPDs (as.map e)).bind fun ps => if sortOk ps then some (D.lst (sortD (as.map e) ps)) else none) = _
  rw [toPDs_map h1, Option.bind_some, if_pos h2, sortD_map hle]
/-! pairs of numbers -/
def qP (a : Int × Int) : PyData := .tuple [.int a.1, .int a.2]
theorem toPD_ptQ (a : Int × Int) : toPD (pt a) = some (qP a) := by
  simp [pt, qP, toPD, toPDs]
theorem leP_data (a b : Int × Int) : leP a b = PySem.W.dataLe false qP a b := by
  have := congrFun (congrFun (PySem.W.dataLe_ii (β := Int × Int) (fun a => a.1) (fun a => a.2)) a) b
  exact this.symm
theorem sortOk_pt (as : List (Int × Int)) : sortOk (as.map qP) = true := by
  unfold sortOk
  simp only [Bool.and_eq_true, Bool.or_eq_true, List.all_eq_true, decide_eq_true_eq]
  refine ⟨⟨fun x hx y hy => ?_, .inl fun x hx => ?_⟩, fun x hx => ?_⟩
  · obtain ⟨a, _, rfl⟩ := List.mem_map.mp hx
    obtain ⟨b, _, rfl⟩ := List.mem_map.mp hy
    rfl
  · obtain ⟨a, _, rfl⟩ := List.mem_map.mp hx
    rfl
  · obtain ⟨a, _, rfl⟩ := List.mem_map.mp hx
    simp [qP, PyData.depth, PyData.depthAll]
theorem sorted_pt (as : List (Int × Int)) : dSortedX [.lst (as.map pt)] = some (.lst ((as.mergeSort leP).map pt)) :=
  dSortedX_map (q := qP) (fun a _ => toPD_ptQ a) (sortOk_pt as) fun a _ b _ => leP_data a b
/-! a pair of numbers and a number -/
abbrev ph (a : (Int × Int) × Int) : D := .tup [pt a.1, .int a.2]
def qH (a : (Int × Int) × Int) : PyData := .tuple [qP a.1, .int a.2]
theorem toPD_phQ (a : (Int × Int) × Int) : toPD (ph a) = some (qH a) := by
  simp [ph, qH, qP, toPD, toPDs]
theorem eqv_qP (a b : Int × Int) : PyData.eqv (qP a) (qP b) = decide (a = b) := by
  unfold qP
  simp only [PyData.eqv, PyData.eqvAll, Prod.ext_iff, Bool.and_true]
  by_cases h1 : a.1 = b.1 <;> by_cases h2 : a.2 = b.2 <;> simp [h1, h2]
theorem leH_data (a b : (Int × Int) × Int) : leH a b = PySem.W.dataLe false qH a b := by
  rw [PySem.W.dataLe_eq]
  show _ = !PySem.W.dataLt (qH b) (qH a)
  unfold qH
  rw [PySem.W.dataLt_pair (by rfl) (by rfl), eqv_qP]
  unfold leH
  by_cases h : a.1 = b.1
  · rw [if_pos h, if_pos (by simp [h])]
    rw [PySem.W.dataLt_int]
    simp only [PyData.eqv, beq_iff_eq]
    by_cases e : b.2 = a.2
    · rw [if_pos e, e]; simp
    · rw [if_neg e]
      by_cases l : a.2 ≤ b.2
      · simp [l, show ¬ b.2 < a.2 by omega]
      · simp [l, show b.2 < a.2 by omega]
  · rw [if_neg h, if_neg (by simp; exact fun e => h e.symm)]
    exact leP_data a.1 b.1
theorem sortOk_ph (as : List ((Int × Int) × Int)) : sortOk (as.map qH) = true := by
  unfold sortOk
  simp only [Bool.and_eq_true, Bool.or_eq_true, List.all_eq_true, decide_eq_true_eq]
  refine ⟨⟨fun x hx y hy => ?_, .inl fun x hx => ?_⟩, fun x hx => ?_⟩
  · obtain ⟨a, _, rfl⟩ := List.mem_map.mp hx
    obtain ⟨b, _, rfl⟩ := List.mem_map.mp hy
    rfl
  · obtain ⟨a, _, rfl⟩ := List.mem_map.mp hx
    rfl
  · obtain ⟨a, _, rfl⟩ := List.mem_map.mp hx
    simp [qH, qP, PyData.depth, PyData.depthAll]
theorem sorted_ph (as : List ((Int × Int) × Int)) : dSortedX [.lst (as.map ph)] = some (.lst ((as.mergeSort leH).map ph)) :=
  dSortedX_map (q := qH) (fun a _ => toPD_phQ a) (sortOk_ph as) fun a _ b _ => leH_data a b
end PP

namespace PP
open PySem L2
open Res (ok exc bad)
/-! ### data that is equal to itself -/
mutual
theorem eqv_self : ∀ (d : D) {p : PyData}, toPD d = some p → PyData.eqv p p = true
  | .non, _, e => by simp [toPD] at e; subst e; simp [PyData.eqv]
  | .bl _, _, e => by simp [toPD] at e; subst e; simp [PyData.eqv]
  | .int _, _, e => by simp [toPD] at e; subst e; simp [PyData.eqv]
  | .str _, _, e => by simp [toPD] at e; subst e; simp [PyData.eqv]
  | .ty _, _, e => by simp [toPD] at e
  | .obj _ _, _, e => by simp [toPD] at e
  | .dct _, _, e => by simp [toPD] at e
  | .tup xs, _, e => by
    simp only [toPD, Option.map_eq_some_iff] at e
    obtain ⟨ps, e1, rfl⟩ := e
    simpa [PyData.eqv] using eqvs_self xs e1
  | .lst xs, _, e => by
    simp only [toPD, Option.map_eq_some_iff] at e
    obtain ⟨ps, e1, rfl⟩ := e
    simpa [PyData.eqv] using eqvs_self xs e1
  | .kl xs, _, e => by
    simp only [toPD, Option.map_eq_some_iff] at e
    obtain ⟨ps, e1, rfl⟩ := e
    simpa [PyData.eqv] using eqvs_self xs e1
theorem eqvs_self : ∀ (ds : List D) {ps : List PyData}, toPDs ds = some ps → PyData.eqvAll ps ps = true
  | [], _, e => by simp [toPDs] at e; subst e; simp [PyData.eqvAll]
  | d :: ds, _, e => by
    simp only [toPDs, Option.bind_eq_some_iff, Option.map_eq_some_iff] at e
    obtain ⟨p, e1, ps, e2, rfl⟩ := e
    simp [PyData.eqvAll, eqv_self d e1, eqvs_self ds e2]
end
/-- plain data, at most n deep -/
def Dat (n : Nat) (d : D) : Prop := ∃ p, toPD d = some p ∧ Sh n p
theorem dats {n : Nat} : ∀ {ds : List D}, (∀ d ∈ ds, Dat n d) → ∃ ps, toPDs ds = some ps ∧ ∀ p ∈ ps, Sh n p
  | [], _ => ⟨[], by simp [toPDs], fun _ h => by simp at h⟩
  | d :: ds, h => by
    obtain ⟨p, e, s⟩ := h d (by simp)
    obtain ⟨ps, e2, s2⟩ := dats (ds := ds) fun x hx => h x (by simp [hx])
    exact ⟨p :: ps, by simp [toPDs, e, e2], fun q hq => by
      rcases List.mem_cons.mp hq with r | r
      · rw [r]; exact s
      · exact s2 q r⟩
theorem Dat.int {n : Nat} (i : Int) : Dat n (.int i) := ⟨.int i, by simp [toPD], .int i⟩
theorem Dat.bl {n : Nat} (i : Bool) : Dat n (.bl i) := ⟨.bool i, by simp [toPD], by simp [PyData.canLay0], by simp [PyData.depth]⟩
theorem Dat.str {n : Nat} (i : Str) (h : PyData.strOk i = true) : Dat n (.str i) := ⟨.str i, by simp [toPD], by simp [PyData.canLay0, h], by simp [PyData.depth]⟩
theorem Dat.non {n : Nat} : Dat n .non := ⟨.none, by simp [toPD], by simp [PyData.canLay0], by simp [PyData.depth]⟩
theorem Dat.tup {n : Nat} {ds : List D} (h : ∀ d ∈ ds, Dat n d) : Dat (n + 1) (.tup ds) := by
  obtain ⟨ps, e, s⟩ := dats h
  exact ⟨.tuple ps, by simp [toPD, e], .tup s⟩
theorem Dat.lst {n : Nat} {ds : List D} (h : ∀ d ∈ ds, Dat n d) : Dat (n + 1) (.lst ds) := by
  obtain ⟨ps, e, s⟩ := dats h
  exact ⟨.list ps, by simp [toPD, e], .lst s⟩
theorem Dat.more {n m : Nat} {d : D} (h : Dat n d) (l : n ≤ m) : Dat m d := by
  obtain ⟨p, e, s⟩ := h
  exact ⟨p, e, s.1, Nat.le_trans s.2 l⟩
theorem all_nil {α : Type} {P : α → Prop} : ∀ a ∈ ([] : List α), P a := fun _ h => by simp at h
theorem all_cons {α : Type} {P : α → Prop} {a : α} {l : List α} (h : P a) (t : ∀ x ∈ l, P x) : ∀ x ∈ a :: l, P x := fun x hx => by
  rcases List.mem_cons.mp hx with e | e
  · rw [e]; exact h
  · exact t x e
theorem all_map {α β : Type} {P : β → Prop} {f : α → β} {l : List α} (h : ∀ a, P (f a)) : ∀ x ∈ l.map f, P x := fun x hx => by
  obtain ⟨a, _, rfl⟩ := List.mem_map.mp hx
  exact h a
theorem Dat.pt {n : Nat} (p : Int × Int) : Dat (n + 1) (pt p) := .tup (all_cons (.int _) (all_cons (.int _) all_nil))
theorem Dat.ph {n : Nat} (p : (Int × Int) × Int) : Dat (n + 2) (ph p) := .tup (all_cons (.pt _) (all_cons (.int _) all_nil))
theorem deepEq_self {n : Nat} {d : D} (h : Dat n d) (hn : n ≤ 64) : deepEq d d = some true := by
  obtain ⟨p, e, s⟩ := h
  unfold deepEq
  rw [e, Option.bind_some, Option.bind_some, s.shaped hn, Bool.and_self, if_pos rfl, eqv_self d e]
theorem dEq_selfT {n : Nat} {xs : List D} (h : Dat n (.tup xs)) (hn : n ≤ 64 := by decide) : dEq (.tup xs) (.tup xs) = some (.bl true) := by
  show (deepEq (.tup xs) (.tup xs)).map D.bl = _
  rw [deepEq_self h hn]
  rfl
theorem dEq_selfL {n : Nat} {xs : List D} (h : Dat n (.lst xs)) (hn : n ≤ 64 := by decide) : dEq (.lst xs) (.lst xs) = some (.bl true) := by
  show (deepEq (.lst xs) (.lst xs)).map D.bl = _
  rw [deepEq_self h hn]
  rfl
theorem dNe_selfT {n : Nat} {xs : List D} (h : Dat n (.tup xs)) (hn : n ≤ 64 := by decide) : dNe (.tup xs) (.tup xs) = some (.bl false) := by
  unfold dNe
  rw [dEq_selfT h hn]
  rfl
theorem dNe_selfL {n : Nat} {xs : List D} (h : Dat n (.lst xs)) (hn : n ≤ 64 := by decide) : dNe (.lst xs) (.lst xs) = some (.bl false) := by
  unfold dNe
  rw [dEq_selfL h hn]
  rfl
/-! ### in -/
theorem inSeq_some {n : Nat} {d : D} {xs : List D} (h : Dat n d) (hs : ∀ x ∈ xs, Dat n x) (hn : n + 1 ≤ 64 := by decide) : ∃ b, inSeq d xs = some b := by
  obtain ⟨p, e, s⟩ := h
  obtain ⟨ps, e2, s2⟩ := dats hs
  refine ⟨ps.any fun z => PyData.eqv z p, ?_⟩
  unfold inSeq
  rw [e, e2, Option.bind_some, Option.bind_some, s.shaped (by omega), (Sh.lst s2).shaped hn, Bool.and_self, if_pos rfl]
theorem inSeq_map {α : Type} {e : α → D} {q : α → PyData} {n : Nat} {a : α} {as : List α} {k : Bool} (h1 : ∀ a, toPD (e a) = some (q a)) (h2 : ∀ a, Sh n (q a)) (h3 : ∀ a b, PyData.eqv (q a) (q b) = true ↔ a = b) (hn : n + 1 ≤ 64) (hk : k = true ↔ a ∈ as) : inSeq (e a) (as.map e) = some k := by
  unfold inSeq
  rw [h1, toPDs_map fun a _ => h1 a, Option.bind_some, Option.bind_some, (h2 a).shaped (by omega), (Sh.lst (n := n) fun d hd => by
    obtain ⟨x, _, rfl⟩ := List.mem_map.mp hd
    exact h2 x).shaped hn, Bool.and_self, if_pos rfl, List.any_map]
  congr 1
  rw [Bool.eq_iff_iff, List.any_eq_true, hk]
  constructor
  · rintro ⟨x, hx, e⟩
    exact (h3 x a).mp e ▸ hx
  · intro h
    exact ⟨a, h, (h3 a a).mpr rfl⟩
theorem sh_qP (a : Int × Int) : Sh 1 (qP a) := Sh.tup (all_cons (.int _) (all_cons (.int _) all_nil))
theorem sh_qH (a : (Int × Int) × Int) : Sh 2 (qH a) := Sh.tup (all_cons (sh_qP _) (all_cons (.int _) all_nil))
theorem eqv_qH (a b : (Int × Int) × Int) : PyData.eqv (qH a) (qH b) = decide (a = b) := by
  unfold qH
  simp only [PyData.eqv, PyData.eqvAll, Bool.and_true, eqv_qP]
  rw [Bool.eq_iff_iff]
  simp [Prod.ext_iff]
theorem in_pt (p : Int × Int) (ps : List (Int × Int)) : inSeq (pt p) (ps.map pt) = some (decide (p ∈ ps)) := inSeq_map (q := qP) toPD_ptQ sh_qP (fun a b => by rw [eqv_qP, decide_eq_true_eq]) (by decide) decide_eq_true_iff
theorem in_ph (p : (Int × Int) × Int) (ps : List ((Int × Int) × Int)) : inSeq (ph p) (ps.map ph) = some (decide (p ∈ ps)) := inSeq_map (q := qH) toPD_phQ sh_qH (fun a b => by rw [eqv_qH, decide_eq_true_eq]) (by decide) decide_eq_true_iff
theorem inX_lst {d : D} {xs : List D} {b : Bool} (h : inSeq d xs = some b) : dInX d (.lst xs) = some (.bl b) := by
  cases d <;> first | (show (inSeq _ xs).map D.bl = _; rw [h]; rfl) | (simp [inSeq, toPD] at h)
theorem inX_tup {d : D} {xs : List D} {b : Bool} (h : inSeq d xs = some b) : dInX d (.tup xs) = some (.bl b) := by
  cases d <;> first | (show (inSeq _ xs).map D.bl = _; rw [h]; rfl) | (simp [inSeq, toPD] at h)
theorem notX_lst {d : D} {xs : List D} {b : Bool} (h : inSeq d xs = some b) : dNotInX d (.lst xs) = some (.bl (!b)) := by
  have : dIn d (.lst xs) = some (.bl b) := inX_lst h
  show dNotIn d (.lst xs) = _
  unfold dNotIn
  rw [this]
theorem notX_tup {d : D} {xs : List D} {b : Bool} (h : inSeq d xs = some b) : dNotInX d (.tup xs) = some (.bl (!b)) := by
  have : dIn d (.tup xs) = some (.bl b) := inX_tup h
  show dNotIn d (.tup xs) = _
  unfold dNotIn
  rw [this]
/-! ### dicts whose keys are pairs -/
def kP (p : Int × Int) : NestedKey := .tup [.num p.1, .num p.2]
theorem kP_inj {p q : Int × Int} : kP p = kP q ↔ p = q := ⟨fun h => by
  unfold kP at h
  injection h with h
  injection h with h1 h
  injection h with h2 h
  injection h1 with h1
  injection h2 with h2
  exact Prod.ext h1 h2, fun h => by rw [h]⟩
theorem keyD_pt (p : Int × Int) : keyD (pt p) = some (kP p) := by simp [keyD, keyD.keyDs, kP]
theorem keyT_pt (p : Int × Int) : keyT (pt p) = some (kP p) := by
  show ((keyD (pt p)).bind fun k => if k.depth ≤ 8 then some k else none) = _
  rw [keyD_pt, Option.bind_some, if_pos (by simp [kP, NestedKey.depth, NestedKey.depthAll])]
theorem keysOk_pt {g : Int × Int → D} (ps : List (Int × Int)) : keysOk (ps.map fun p => (pt p, g p)) = true := by
  unfold keysOk
  rw [List.all_map]
  exact List.all_eq_true.mpr fun p _ => by simp [keyT_pt]
theorem lookD_pt {g : Int × Int → D} (p : Int × Int) : ∀ ps : List (Int × Int), lookD (ps.map fun p => (pt p, g p)) (kP p) = if p ∈ ps then some (g p) else none
  | [] => rfl
  | a :: ps => by
    have ih := lookD_pt (g := g) p ps
    unfold lookD at ih ⊢
    rw [List.map_cons, List.find?_cons, keyD_pt]
    by_cases e : a = p
    · subst e
      rw [decide_eq_true rfl, if_pos (by simp)]
      rfl
    · rw [decide_eq_false (fun z => e (kP_inj.mp (Option.some.inj z)))]
      simp only [ih, List.mem_cons]
      by_cases m : p ∈ ps
      · rw [if_pos m, if_pos (.inr m)]
      · rw [if_neg m, if_neg (by rintro (z | z); exact e z.symm; exact m z)]
theorem inX_dct {g : Int × Int → D} (p : Int × Int) (ps : List (Int × Int)) : dInX (pt p) (.dct (ps.map fun p => (pt p, g p))) = some (.bl (decide (p ∈ ps))) := by
  show ((keyT (pt p)).bind fun k => if keysOk (ps.map fun p => (pt p, g p)) then some (D.bl (false ^^ (lookD (ps.map fun p => (pt p, g p)) k).isSome)) else none) = _
  rw [keyT_pt, Option.bind_some, if_pos (keysOk_pt ps), lookD_pt]
  by_cases m : p ∈ ps
  · rw [if_pos m, decide_eq_true m]; rfl
  · rw [if_neg m, decide_eq_false m]; rfl
theorem notX_dct {g : Int × Int → D} (p : Int × Int) (ps : List (Int × Int)) : dNotInX (pt p) (.dct (ps.map fun p => (pt p, g p))) = some (.bl (!decide (p ∈ ps))) := by
  show ((keyT (pt p)).bind fun k => if keysOk (ps.map fun p => (pt p, g p)) then some (D.bl (true ^^ (lookD (ps.map fun p => (pt p, g p)) k).isSome)) else none) = _
  rw [keyT_pt, Option.bind_some, if_pos (keysOk_pt ps), lookD_pt]
  by_cases m : p ∈ ps
  · rw [if_pos m, decide_eq_true m]; rfl
  · rw [if_neg m, decide_eq_false m]; rfl
theorem ixX_dct {g : Int × Int → D} {p : Int × Int} {ps : List (Int × Int)} (m : p ∈ ps) : dIxX (.dct (ps.map fun p => (pt p, g p))) (pt p) = some (g p) := by
  show ((keyT (pt p)).bind fun k => if keysOk (ps.map fun p => (pt p, g p)) then lookD (ps.map fun p => (pt p, g p)) k else none) = _
  rw [keyT_pt, Option.bind_some, if_pos (keysOk_pt ps), lookD_pt, if_pos m]
theorem put_pt {ρ : Sls} {i : Nat} {f g : Sls → Res D} {p : Int × Int} {ps : List (Int × Int)} {k : Int × Int → D} (h : ρ[i]? = some (.ow (.dct (ps.map fun p => (pt p, k p))))) (hf : f ρ = ok (pt p)) (hg : g ρ = ok (k p)) (hn : p ∉ ps) (hl : ps.length ≤ 1000000) :
    sPut i f g ρ = .nx (ρ.set i (.ow (.dct ((ps ++ [p]).map fun p => (pt p, k p))))) := by
  unfold sPut
  rw [h]
  show thenF (g ρ) ρ _ = _
  rw [hg, thenF_ok, hf, thenF_ok, keyT_pt]
  simp only []
  rw [if_pos ⟨keysOk_pt ps, by rw [List.length_map]; have := size1000; omega⟩]
  unfold putD
  rw [lookD_pt, if_neg hn, if_neg (by simp), List.map_append]
  rfl
theorem disp1_pt {ρ : Sls} {f g : Sls → Res D} {p : Int × Int} {v : D} (hf : f ρ = ok (pt p)) (hg : g ρ = ok v) : mDisp1 f g ρ = ok (.dct [(pt p, v)]) := by
  unfold mDisp1
  rw [hf, Res.ok_bind, hg, Res.ok_bind, keyT_pt]
  exact if_pos rfl
theorem sorted_dct {g : Int × Int → D} (ps : List (Int × Int)) : dSortedX [.dct (ps.map fun p => (pt p, g p))] = some (.lst ((ps.mergeSort leP).map pt)) := by
  have : (ps.map fun p => (pt p, g p)).map (·.1) = ps.map pt := by rw [List.map_map]; rfl
  show ((toPDs ((ps.map fun p => (pt p, g p)).map (·.1))).bind fun qs => if sortOk qs then some (D.lst (sortD ((ps.map fun p => (pt p, g p)).map (·.1)) qs)) else none) = _
  rw [this]
  exact sorted_pt ps
/-! ### < of pairs, and the least -/
theorem leP_data' (a b : Int × Int) : PySem.W.dataLt (qP a) (qP b) = !leP b a := by
  have := leP_data b a
  rw [PySem.W.dataLe_eq] at this
  rw [this]
  show PySem.W.dataLt (qP a) (qP b) = !!PySem.W.dataLt (qP a) (qP b)
  rw [Bool.not_not]
theorem alike_qP (a b : Int × Int) : PySem.W.alike (qP a) (qP b) = true := rfl
theorem dLtX_pt (a b : Int × Int) : dLtX (pt a) (pt b) = some (.bl (!leP b a)) := by
  show cmpD cLt (pt a) (pt b) = _
  unfold cmpD
  rw [toPD_ptQ, toPD_ptQ, Option.bind_some, Option.bind_some, alike_qP, if_pos (by simp [qP, isNone, PyData.depth, PyData.depthAll])]
  show some (D.bl (PySem.W.dataLt (qP a) (qP b))) = _
  rw [leP_data']
theorem best_ok (l : List (Int × Int)) (tot : ∀ a b, (leP a b || leP b a) = true) (tr : ∀ a b c, leP a b = true → leP b c = true → leP a c = true) : ∀ k, k < l.length → argBest (btP (l.map qP)) k ≤ k ∧ ∀ j, j ≤ k → leP (l.getD (argBest (btP (l.map qP)) k) (0, 0)) (l.getD j (0, 0)) = true
  | 0, h => ⟨Nat.le_refl _, fun j hj => by
    have := tot (l.getD 0 (0, 0)) (l.getD 0 (0, 0))
    rw [Bool.or_self] at this
    rw [show j = 0 by omega]
    exact this⟩
  | k + 1, h => by
    obtain ⟨h1, h2⟩ := best_ok l tot tr k (by omega)
    have q : ∀ i, i < l.length → (l.map qP).getD i .none = qP (l.getD i (0, 0)) := fun i hi => by
      rw [List.getD_eq_getElem?_getD, List.getD_eq_getElem?_getD, List.getElem?_map, List.getElem?_eq_getElem hi]
      rfl
    have e : btP (l.map qP) (k + 1) (argBest (btP (l.map qP)) k) = !leP (l.getD (argBest (btP (l.map qP)) k) (0, 0)) (l.getD (k + 1) (0, 0)) := by
      show PySem.W.dataLt _ _ = _
      rw [q _ h, q _ (by omega), leP_data']
    show (if btP (l.map qP) (k + 1) (argBest (btP (l.map qP)) k) = true then k + 1 else argBest (btP (l.map qP)) k) ≤ k + 1 ∧ ∀ j, j ≤ k + 1 → leP (l.getD (if btP (l.map qP) (k + 1) (argBest (btP (l.map qP)) k) = true then k + 1 else argBest (btP (l.map qP)) k) (0, 0)) (l.getD j (0, 0)) = true
    rw [e]
    cases c : leP (l.getD (argBest (btP (l.map qP)) k) (0, 0)) (l.getD (k + 1) (0, 0)) with
    | true =>
      rw [if_neg (by simp)]
      refine ⟨by omega, fun j hj => ?_⟩
      by_cases hj' : j = k + 1
      · rw [hj']; exact c
      · exact h2 j (by omega)
    | false =>
      rw [if_pos (by simp)]
      have t := tot (l.getD (argBest (btP (l.map qP)) k) (0, 0)) (l.getD (k + 1) (0, 0))
      rw [c, Bool.false_or] at t
      refine ⟨by omega, fun j hj => ?_⟩
      by_cases hj' : j = k + 1
      · rw [hj']
        have := tot (l.getD (k + 1) (0, 0)) (l.getD (k + 1) (0, 0))
        rwa [Bool.or_self] at this
      · exact tr _ _ _ t (h2 j (by omega))
/-- min of a dict's keys: the head of the sorted list -/
theorem min_dct {g : Int × Int → D} {l : List (Int × Int)} (hne : l ≠ []) (tot : ∀ a b, (leP a b || leP b a) = true) (tr : ∀ a b c, leP a b = true → leP b c = true → leP a c = true) :
    ∃ m, dMinD [.dct (l.map fun p => (pt p, g p))] = some (pt m) ∧ m ∈ l ∧ ∀ x ∈ l, leP m x = true := by
  have hl : 0 < l.length := List.length_pos_iff.mpr hne
  obtain ⟨h1, h2⟩ := best_ok l tot tr (l.length - 1) (by omega)
  have hi : argBest (btP (l.map qP)) (l.length - 1) < l.length := by omega
  refine ⟨l.getD (argBest (btP (l.map qP)) (l.length - 1)) (0, 0), ?_, ?_, fun x hx => ?_⟩
  · have : (l.map fun p => (pt p, g p)).map (·.1) = l.map pt := by rw [List.map_map]; rfl
    unfold dMinD
    simp only [this]
    rw [toPDs_map fun a _ => toPD_ptQ a, Option.bind_some, if_pos, List.getElem?_map, List.length_map, List.getD_eq_getElem?_getD, List.getElem?_eq_getElem hi]
    · rfl
    · rw [Bool.and_eq_true, Bool.and_eq_true]
      refine ⟨⟨List.all_eq_true.mpr fun x hx => List.all_eq_true.mpr fun y hy => ?_, List.all_eq_true.mpr fun x hx => ?_⟩, ?_⟩
      · obtain ⟨a, _, rfl⟩ := List.mem_map.mp hx
        obtain ⟨b, _, rfl⟩ := List.mem_map.mp hy
        rfl
      · obtain ⟨a, _, rfl⟩ := List.mem_map.mp hx
        rfl
      · refine decide_eq_true (Nat.le_trans (sh_all (n := 1) fun d hd => ?_).2 (by decide))
        obtain ⟨a, _, rfl⟩ := List.mem_map.mp hd
        exact sh_qP a
  · rw [List.getD_eq_getElem?_getD, List.getElem?_eq_getElem hi]
    exact List.getElem_mem hi
  · obtain ⟨j, hj, rfl⟩ := List.getElem_of_mem hx
    have := h2 j (by omega)
    rwa [List.getD_eq_getElem?_getD (i := j), List.getElem?_eq_getElem hj, Option.getD_some] at this
end PP

namespace PP
open PySem L2
open Res (ok exc bad)
/-! ### dicts whose keys are written in any way that keeps them apart -/
structure KeyEmb {α : Type} (e : α → D) (kf : α → NestedKey) : Prop where
  key : ∀ a, keyT (e a) = some (kf a)
  inj : ∀ {a b}, kf a = kf b → a = b
section
variable {α : Type} [DecidableEq α] {e : α → D} {kf : α → NestedKey}
abbrev asD (e : α → D) (ps : List (α × D)) : List (D × D) := ps.map fun p => (e p.1, p.2)
theorem keysOk_as (E : KeyEmb e kf) (ps : List (α × D)) : keysOk (asD e ps) = true := by
  unfold keysOk
  rw [List.all_map]
  exact List.all_eq_true.mpr fun p _ => by simp [E.key]
theorem look_as (E : KeyEmb e kf) (a : α) : ∀ ps : List (α × D), lookD (asD e ps) (kf a) = (ps.find? fun p => decide (p.1 = a)).map (·.2)
  | [] => rfl
  | p :: ps => by
    have ih := look_as E a ps
    unfold lookD at ih ⊢
    show Option.map (fun x => x.snd) (List.find? (fun q => decide (keyD q.fst = some (kf a))) ((e p.1, p.2) :: asD e ps)) = _
    rw [List.find?_cons, List.find?_cons, (keyT_ok (E.key p.1)).1]
    by_cases q : p.1 = a
    · rw [q, decide_eq_true rfl, decide_eq_true rfl]
      rfl
    · rw [decide_eq_false q, decide_eq_false (fun z => q (E.inj (Option.some.inj z)))]
      exact ih
theorem find_isSome (a : α) (ps : List (α × D)) : (ps.find? fun p => decide (p.1 = a)).isSome = decide (a ∈ ps.map (·.1)) := by
  rw [Bool.eq_iff_iff, List.find?_isSome, decide_eq_true_eq, List.mem_map]
  constructor
  · rintro ⟨p, hp, q⟩
    exact ⟨p, hp, of_decide_eq_true q⟩
  · rintro ⟨p, hp, q⟩
    exact ⟨p, hp, decide_eq_true q⟩
theorem in_as (E : KeyEmb e kf) (a : α) (ps : List (α × D)) : dInX (e a) (.dct (asD e ps)) = some (.bl (decide (a ∈ ps.map (·.1)))) := by
  show ((keyT (e a)).bind fun k => if keysOk (asD e ps) then some (D.bl (false ^^ (lookD (asD e ps) k).isSome)) else none) = _
  rw [E.key, Option.bind_some, if_pos (keysOk_as E ps), look_as E, Option.isSome_map, find_isSome]
  cases decide (a ∈ ps.map (·.1)) <;> rfl
theorem not_as (E : KeyEmb e kf) (a : α) (ps : List (α × D)) : dNotInX (e a) (.dct (asD e ps)) = some (.bl (!decide (a ∈ ps.map (·.1)))) := by
  show ((keyT (e a)).bind fun k => if keysOk (asD e ps) then some (D.bl (true ^^ (lookD (asD e ps) k).isSome)) else none) = _
  rw [E.key, Option.bind_some, if_pos (keysOk_as E ps), look_as E, Option.isSome_map, find_isSome]
  cases decide (a ∈ ps.map (·.1)) <;> rfl
theorem ix_as (E : KeyEmb e kf) {a : α} {ps : List (α × D)} {P : D → Prop} (h : a ∈ ps.map (·.1)) (hp : ∀ p ∈ ps, P p.2) : ∃ v, dIxX (.dct (asD e ps)) (e a) = some v ∧ P v := by
  have h2 := find_isSome a ps
  rw [decide_eq_true h] at h2
  obtain ⟨p, ep⟩ := Option.isSome_iff_exists.mp h2
  refine ⟨p.2, ?_, hp p (List.mem_of_find?_eq_some ep)⟩
  show ((keyT (e a)).bind fun k => if keysOk (asD e ps) then lookD (asD e ps) k else none) = _
  rw [E.key, Option.bind_some, if_pos (keysOk_as E ps), look_as E, ep]
  rfl
theorem put_as (E : KeyEmb e kf) {ρ : Sls} {i : Nat} {f g : Sls → Res D} {a : α} {v : D} {ps : List (α × D)} (h : ρ[i]? = some (.ow (.dct (asD e ps)))) (hf : f ρ = ok (e a)) (hg : g ρ = ok v) (hn : a ∉ ps.map (·.1)) (hl : ps.length ≤ 1000000) :
    sPut i f g ρ = .nx (ρ.set i (.ow (.dct (asD e (ps ++ [(a, v)]))))) := by
  unfold sPut
  rw [h]
  show thenF (g ρ) ρ _ = _
  rw [hg, thenF_ok, hf, thenF_ok, E.key]
  simp only []
  rw [if_pos ⟨keysOk_as E ps, by rw [List.length_map]; have := size1000; omega⟩]
  unfold putD
  have h2 := find_isSome a ps
  rw [decide_eq_false hn] at h2
  rw [look_as E, Option.isSome_map, h2, if_neg (by simp)]
  unfold asD
  rw [List.map_append]
  rfl
theorem disp1_as (E : KeyEmb e kf) {ρ : Sls} {f g : Sls → Res D} {a : α} {v : D} (hf : f ρ = ok (e a)) (hg : g ρ = ok v) : mDisp1 f g ρ = ok (.dct (asD e [(a, v)])) := by
  unfold mDisp1
  rw [hf, Res.ok_bind, hg, Res.ok_bind, E.key]
  exact if_pos rfl
theorem sort_as {q : α → PyData} (h1 : ∀ a, toPD (e a) = some (q a)) {ps : List (α × D)} (h2 : sortOk ((ps.map (·.1)).map q) = true) : ∃ l, dSortedX [.dct (asD e ps)] = some (.lst l) := by
  have e1 : (asD e ps).map (·.1) = (ps.map (·.1)).map e := by
    unfold asD
    rw [List.map_map, List.map_map]
    rfl
  refine ⟨sortD ((ps.map (·.1)).map e) ((ps.map (·.1)).map q), ?_⟩
  show ((toPDs ((asD e ps).map (·.1))).bind fun qs => if sortOk qs then some (D.lst (sortD ((asD e ps).map (·.1)) qs)) else none) = _
  rw [e1, toPDs_map fun a _ => h1 a, Option.bind_some, if_pos h2]
end
/-! ### a pair and a list of pairs -/
abbrev pB (s : (Int × Int) × List (Int × Int)) : D := .tup [pt s.1, .tup (s.2.map pt)]
def kB (s : (Int × Int) × List (Int × Int)) : NestedKey := .tup [kP s.1, .tup (s.2.map kP)]
theorem keyDs_pts : ∀ l : List (Int × Int), keyD.keyDs (l.map pt) = some (l.map kP)
  | [] => by simp [keyD.keyDs]
  | p :: l => by
    simp only [List.map_cons, keyD.keyDs, keyDs_pts l, keyD_pt]
    rfl
theorem kP_depth (p : Int × Int) : (kP p).depth = 1 := by simp [kP, NestedKey.depth, NestedKey.depthAll]
theorem depthAll_kP : ∀ l : List (Int × Int), NestedKey.depthAll (l.map kP) ≤ 1
  | [] => by simp [NestedKey.depthAll]
  | p :: l => by
    simp only [List.map_cons, NestedKey.depthAll, kP_depth]
    exact Nat.max_le.mpr ⟨Nat.le_refl _, depthAll_kP l⟩
theorem kB_depth (s : (Int × Int) × List (Int × Int)) : (kB s).depth ≤ 8 := by
  unfold kB
  simp only [NestedKey.depth, NestedKey.depthAll, kP_depth]
  have := depthAll_kP s.2
  omega
theorem embB : KeyEmb pB kB where
  key := fun s => by
    have e : keyD (pB s) = some (kB s) := by
      simp only [pB, keyD, keyD.keyDs, keyDs_pts, kB]
      rfl
    show (keyD (pB s)).bind (fun k => if k.depth ≤ 8 then some k else none) = _
    rw [e, Option.bind_some, if_pos (kB_depth s)]
  inj := fun {a b} h => by
    unfold kB at h
    injection h with h
    injection h with h1 h
    injection h with h2 h
    injection h2 with h2
    refine Prod.ext (kP_inj.mp h1) ?_
    have key : ∀ l m : List (Int × Int), l.map kP = m.map kP → l = m := by
      intro l
      induction l with
      | nil => intro m h; cases m with
        | nil => rfl
        | cons _ _ => simp at h
      | cons x l ih => intro m h; cases m with
        | nil => simp at h
        | cons y m =>
          simp only [List.map_cons, List.cons.injEq] at h
          rw [kP_inj.mp h.1, ih m h.2]
    exact key _ _ h2
def qB (s : (Int × Int) × List (Int × Int)) : PyData := .tuple [qP s.1, .tuple (s.2.map qP)]
theorem toPD_pB (s : (Int × Int) × List (Int × Int)) : toPD (pB s) = some (qB s) := by
  have h := toPDs_map (e := pt) (q := qP) (as := s.2) fun a _ => toPD_ptQ a
  have h1 := toPD_ptQ s.1
  simp only [pB, toPD, toPDs, qB, h]
  simp only [pt, toPD, toPDs] at h1
  simp [h1, qP]
theorem alikeAll_qP : ∀ l m : List (Int × Int), PySem.W.alikeAll (l.map qP) (m.map qP) = true
  | [], [] => rfl
  | [], _ :: _ => rfl
  | _ :: _, [] => rfl
  | a :: l, b :: m => by
    show (PySem.W.alike (qP a) (qP b) && PySem.W.alikeAll (l.map qP) (m.map qP)) = true
    rw [alikeAll_qP l m]
    rfl
theorem sortOk_qB (l : List ((Int × Int) × List (Int × Int))) : sortOk (l.map qB) = true := by
  unfold sortOk
  simp only [Bool.and_eq_true, Bool.or_eq_true, List.all_eq_true, decide_eq_true_eq]
  refine ⟨⟨fun x hx y hy => ?_, .inl fun x hx => ?_⟩, fun x hx => ?_⟩
  · obtain ⟨a, _, rfl⟩ := List.mem_map.mp hx
    obtain ⟨b, _, rfl⟩ := List.mem_map.mp hy
    show (PySem.W.alike (qP a.1) (qP b.1) && (PySem.W.alikeAll (a.2.map qP) (b.2.map qP) && true)) = true
    rw [alikeAll_qP]
    rfl
  · obtain ⟨a, _, rfl⟩ := List.mem_map.mp hx
    rfl
  · obtain ⟨a, _, rfl⟩ := List.mem_map.mp hx
    refine Nat.le_trans (Sh.tup (n := 2) (all_cons ⟨(sh_qP _).1, Nat.le_trans (sh_qP _).2 (by decide)⟩ (all_cons (Sh.tup (n := 1) fun d hd => ?_) all_nil))).2 (by decide)
    obtain ⟨p, _, rfl⟩ := List.mem_map.mp hd
    exact sh_qP p
end PP

namespace K96
open PySem PySem.Spec PyProof.Rows L2 PP
open PP.Res (ok exc bad)
def top (i : Nat) : Stmt := PySem.Challenge.pw_mazemore_k96_whole_dead_cells.main.body.getD i (.Pass ⟨0, 0, 0, 0⟩)
def inClass (c : Stmt) (j : Nat) : Stmt := match c with
  | .ClassDef (body := b) .. => b.getD j (.Pass ⟨0, 0, 0, 0⟩)
  | _ => .Pass ⟨0, 0, 0, 0⟩
def excs : List Str := ["MazeError", "BadMaze", "TooMany", "BadYard", "BadState"]
def supers : List (Str × List Str) := [("MazeError", ["MazeError", "ValueError"]), ("BadMaze", ["BadMaze", "MazeError", "ValueError"]), ("TooMany", ["TooMany", "MazeError", "ValueError"]), ("BadYard", ["BadYard", "MazeError", "ValueError"]), ("BadState", ["BadState", "MazeError", "ValueError"])]
def sub (c d : Str) : Bool := match supers.lookup c with
  | some l => l.contains d
  | none => false
def tb_OTHERS : List (Str × D) := [("#", .str "."), (".", .str "#")]
/-- value least most -/
noncomputable def b_is_whole : Sls → Fl :=
    (sRet (mAndV (mBI dIsi [(mVar 0), (mC (.ty "int"))]) (mAndV (mNotV (mBI dIsi [(mVar 0), (mC (.ty "bool"))])) (mChain dLeX dLeX (mVar 1) (mVar 0) (mVar 2)))))
noncomputable def F_is_whole : List D → Res D := runF 3 3 b_is_whole
/-- self rows row sign -/
noncomputable def b_Maze : Sls → Fl :=
    (sSeq (sIf (mOr (mNot (mT (mBI dIsi [(mVar 1), (mC (.ty "tuple"))]))) (mOr (mNot (mT (mChain dLeX dLeX (mC (.int 1)) (mBI dLenX [(mVar 1)]) (mC (.int 14))))) (mNot (mT (mBI dAll [(mLc (mIt (mVar 1)) [2] (tgName 2) mYes (mBI dIsi [(mVar 2), (mC (.ty "str"))]))]))))) (sRaise "BadMaze") sNx)
    (sSeq (sIf (mOr (mNot (mT (mChain dLeX dLeX (mC (.int 1)) (mBI dLenX [(mOp2 dIxX (mVar 1) (mC (.int 0)))]) (mC (.int 14))))) (mNot (mT (mBI dAll [(mLc (mIt (mVar 1)) [2] (tgName 2) mYes (mOp2 dEq (mBI dLenX [(mVar 2)]) (mBI dLenX [(mOp2 dIxX (mVar 1) (mC (.int 0)))])))])))) (sRaise "BadMaze") sNx)
    (sSeq (sIf (mNot (mT (mBI dAll [(mLc (mIt (mVar 1)) [2] (tgName 2) mYes (mOp2 dEq (mBI dLenX [(mLc (mIt (mVar 2)) [3] (tgName 3) (mT (mKNotIn tb_OTHERS (mVar 3))) (mVar 3))]) (mC (.int 0))))]))) (sRaise "BadMaze") sNx)
    (sSeq (sFldS 0 "Maze" "rows" (mVar 1))
    (sSeq (sFldS 0 "Maze" "height" (mBI dLenX [(mVar 1)]))
    (sFldS 0 "Maze" "width" (mBI dLenX [(mOp2 dIxX (mVar 1) (mC (.int 0)))])))))))
noncomputable def I_Maze : Addr → List D → Res D := runI 4 1 "Maze" b_Maze
open Classical in
noncomputable def F_Maze (ds : List D) : Res D := if ∀ a, I_Maze a ds = I_Maze 0 ds then I_Maze 0 ds else bad
theorem hF_Maze (a : Addr) (ds : List D) (d : D) (h : F_Maze ds = ok d) : I_Maze a ds = ok d := by
  unfold F_Maze at h
  split at h
  · rename_i q
    rw [q a]; exact h
  · cases h
theorem hE_Maze (a : Addr) (ds : List D) (c : Str) (h : F_Maze ds = exc c) : I_Maze a ds = exc c := by
  unfold F_Maze at h
  split at h
  · rename_i q
    rw [q a]; exact h
  · cases h
/-- maze value -/
noncomputable def b_is_cell : Sls → Fl :=
    (sSeq (sIf (mOr (mNot (mT (mBI dIsi [(mVar 1), (mC (.ty "tuple"))]))) (mT (mOp2 dNe (mBI dLenX [(mVar 1)]) (mC (.int 2))))) (sRet (mC (.bl false))) sNx)
    (sRet (mAndV (mCall F_is_whole [(mOp2 dIxX (mVar 1) (mC (.int 0))), (mC (.int 0)), (mOp2 dSub (mFld ["Maze"] "height" (mVar 0)) (mC (.int 1)))]) (mCall F_is_whole [(mOp2 dIxX (mVar 1) (mC (.int 1))), (mC (.int 0)), (mOp2 dSub (mFld ["Maze"] "width" (mVar 0)) (mC (.int 1)))]))))
noncomputable def F_is_cell : List D → Res D := runF 2 2 b_is_cell
/-- maze cell -/
noncomputable def b_is_open : Sls → Fl :=
    (sRet (mAndV (mCall F_is_cell [(mVar 0), (mVar 1)]) (mOp2 dEq (mOp2 dIxX (mOp2 dIxX (mFld ["Maze"] "rows" (mVar 0)) (mOp2 dIxX (mVar 1) (mC (.int 0)))) (mOp2 dIxX (mVar 1) (mC (.int 1)))) (mC (.str ".")))))
noncomputable def F_is_open : List D → Res D := runF 2 2 b_is_open
/-- maze found row column -/
noncomputable def b_cells : Sls → Fl :=
    (sSeq (sSetO 1 (mLst []))
    (sSeq (sFor (mRng rng1 [(mFld ["Maze"] "height" (mVar 0))]) (tgName 2)
    (sExt 1 (mLc (mRng rng1 [(mFld ["Maze"] "width" (mVar 0))]) [3] (tgName 3) (mT (mOp2 dEq (mOp2 dIxX (mOp2 dIxX (mFld ["Maze"] "rows" (mVar 0)) (mVar 2)) (mVar 3)) (mC (.str ".")))) (mTup [(mVar 2), (mVar 3)]))))
    (sRet (mBI dTuple [(mVarB 1)]))))
noncomputable def F_cells : List D → Res D := runF 4 1 b_cells
/-- maze cell found down across one -/
noncomputable def b_beside : Sls → Fl :=
    (sSeq (sSet 2 (mLc (mIt (mC (.tup [.tup [.int (-1), .int 0], .tup [.int 0, .int (-1)], .tup [.int 0, .int 1], .tup [.int 1, .int 0]]))) [3, 4] (tgTup 2 (tgsCons (tgName 3) (tgsCons (tgName 4) tgsNil))) mYes (mTup [(mOp2 dAdd (mOp2 dIxX (mVar 1) (mC (.int 0))) (mVar 3)), (mOp2 dAdd (mOp2 dIxX (mVar 1) (mC (.int 1))) (mVar 4))])))
    (sRet (mBI dTuple [(mLc (mIt (mVar 2)) [5] (tgName 5) (mT (mCall F_is_open [(mVar 0), (mVar 5)])) (mVar 5))])))
noncomputable def F_beside : List D → Res D := runF 6 2 b_beside
/-- maze value cell at -/
noncomputable def b_are_cells : Sls → Fl :=
    (sSeq (sIf (mOr (mNot (mT (mBI dIsi [(mVar 1), (mC (.ty "tuple"))]))) (mNot (mT (mBI dAll [(mLc (mIt (mVar 1)) [2] (tgName 2) mYes (mCall F_is_open [(mVar 0), (mVar 2)]))])))) (sRet (mC (.bl false))) sNx)
    (sRet (mBI dAll [(mLc (mRng rng1 [(mOp2 dSub (mBI dLenX [(mVar 1)]) (mC (.int 1)))]) [3] (tgName 3) mYes (mOp2 dLtX (mOp2 dIxX (mVar 1) (mVar 3)) (mOp2 dIxX (mVar 1) (mOp2 dAdd (mVar 3) (mC (.int 1))))))])))
noncomputable def F_are_cells : List D → Res D := runF 4 2 b_are_cells
/-- self maze goals -/
noncomputable def b_Yard : Sls → Fl :=
    (sSeq (sIf (mOr (mNot (mT (mCall F_are_cells [(mVar 1), (mVar 2)]))) (mNot (mT (mChain dLeX dLeX (mC (.int 1)) (mBI dLenX [(mVar 2)]) (mC (.int 4)))))) (sRaise "BadYard") sNx)
    (sSeq (sFldS 0 "Yard" "maze" (mVar 1))
    (sFldS 0 "Yard" "goals" (mVar 2))))
noncomputable def I_Yard : Addr → List D → Res D := runI 3 2 "Yard" b_Yard
open Classical in
noncomputable def F_Yard (ds : List D) : Res D := if ∀ a, I_Yard a ds = I_Yard 0 ds then I_Yard 0 ds else bad
theorem hF_Yard (a : Addr) (ds : List D) (d : D) (h : F_Yard ds = ok d) : I_Yard a ds = ok d := by
  unfold F_Yard at h
  split at h
  · rename_i q
    rw [q a]; exact h
  · cases h
theorem hE_Yard (a : Addr) (ds : List D) (c : Str) (h : F_Yard ds = exc c) : I_Yard a ds = exc c := by
  unfold F_Yard at h
  split at h
  · rename_i q
    rw [q a]; exact h
  · cases h
/-- yard value -/
noncomputable def b_is_state : Sls → Fl :=
    (sSeq (sIf (mOr (mNot (mT (mBI dIsi [(mVar 1), (mC (.ty "tuple"))]))) (mOr (mT (mOp2 dNe (mBI dLenX [(mVar 1)]) (mC (.int 2)))) (mNot (mT (mCall F_is_open [(mFld ["Yard"] "maze" (mVar 0)), (mOp2 dIxX (mVar 1) (mC (.int 0)))]))))) (sRet (mC (.bl false))) sNx)
    (sRet (mAndV (mCall F_are_cells [(mFld ["Yard"] "maze" (mVar 0)), (mOp2 dIxX (mVar 1) (mC (.int 1)))]) (mAndV (mOp2 dEq (mBI dLenX [(mOp2 dIxX (mVar 1) (mC (.int 1)))]) (mBI dLenX [(mFld ["Yard"] "goals" (mVar 0))])) (mOp2 dNotInX (mOp2 dIxX (mVar 1) (mC (.int 0))) (mOp2 dIxX (mVar 1) (mC (.int 1))))))))
noncomputable def F_is_state : List D → Res D := runF 2 2 b_is_state
/-- yard state -/
noncomputable def b_check_state : Sls → Fl :=
    (sIf (mNot (mT (mCall F_is_state [(mVar 0), (mVar 1)]))) (sRaise "BadState") sNx)
noncomputable def F_check_state : List D → Res D := runF 2 2 b_check_state
/-- cell heading -/
noncomputable def b_ahead : Sls → Fl :=
    (sRet (mTup [(mOp2 dAdd (mOp2 dIxX (mVar 0) (mC (.int 0))) (mOp2 dIxX (mOp2 dIxX (mC (.tup [.tup [.int (-1), .int 0], .tup [.int 0, .int 1], .tup [.int 1, .int 0], .tup [.int 0, .int (-1)]])) (mVar 1)) (mC (.int 0)))), (mOp2 dAdd (mOp2 dIxX (mVar 0) (mC (.int 1))) (mOp2 dIxX (mOp2 dIxX (mC (.tup [.tup [.int (-1), .int 0], .tup [.int 0, .int 1], .tup [.int 1, .int 0], .tup [.int 0, .int (-1)]])) (mVar 1)) (mC (.int 1))))]))
noncomputable def F_ahead : List D → Res D := runF 2 2 b_ahead
/-- yard state found waits cell -/
noncomputable def b_reach : Sls → Fl :=
    (sSeq (sSetO 2 (mDisp1 (mOp2 dIxX (mVar 1) (mC (.int 0))) (mC (.bl true))))
    (sSeq (sSetO 3 (mLst [(mOp2 dIxX (mVar 1) (mC (.int 0)))]))
    (sSeq (whileN (mT (mOp2 dGtX (mBI dLenX [(mVarB 3)]) (mC (.int 0)))) (sForS (mPop2 F_beside (mFld ["Yard"] "maze" (mVar 0)) 3) (tgName 4)
    (sIf (mAnd (mT (mOp2 dNotInX (mVar 4) (mVarB 2))) (mT (mOp2 dNotInX (mVar 4) (mOp2 dIxX (mVar 1) (mC (.int 1)))))) (sSeq (sPut 2 (mVar 4) (mC (.bl true)))
    (sApp 3 (mVar 4))) sNx)) 1000)
    (sFrz 2 (sRet (mVar 2))))))
noncomputable def F_reach : List D → Res D := runF 5 2 b_reach
/-- yard boxes cell -/
noncomputable def b_is_free : Sls → Fl :=
    (sRet (mAndV (mCall F_is_open [(mFld ["Yard"] "maze" (mVar 0)), (mVar 2)]) (mOp2 dNotInX (mVar 2) (mVar 1))))
noncomputable def F_is_free : List D → Res D := runF 3 3 b_is_free
/-- yard state there found box heading -/
noncomputable def b_all_pushes : Sls → Fl :=
    (sSeq (sSet 2 (mCall F_reach [(mVar 0), (mVar 1)]))
    (sSeq (sSetO 3 (mLst []))
    (sSeq (sFor (mIt (mOp2 dIxX (mVar 1) (mC (.int 1)))) (tgName 4)
    (sFor (mRng rng1 [(mC (.int 4))]) (tgName 5)
    (sIf (mAnd (mT (mCall F_is_free [(mVar 0), (mOp2 dIxX (mVar 1) (mC (.int 1))), (mCall F_ahead [(mVar 4), (mVar 5)])])) (mT (mOp2 dInX (mCall F_ahead [(mVar 4), (mOp2 dMod (mOp2 dAdd (mVar 5) (mC (.int 2))) (mC (.int 4)))]) (mVar 2)))) (sApp 3 (mTup [(mVar 4), (mVar 5)])) sNx)))
    (sFrz 3 (sRet (mVar 3))))))
noncomputable def F_all_pushes : List D → Res D := runF 6 2 b_all_pushes
/-- state push box heading boxes cell -/
noncomputable def b_moved : Sls → Fl :=
    (sSeq (sAsg (tgTup 2 (tgsCons (tgName 2) (tgsCons (tgName 3) tgsNil))) (mVar 1))
    (sSeq (sSet 4 (mOp2 dAdd (mLc (mIt (mOp2 dIxX (mVar 0) (mC (.int 1)))) [5] (tgName 5) (mT (mOp2 dNe (mVar 5) (mVar 2))) (mVar 5)) (mLst [(mCall F_ahead [(mVar 2), (mVar 3)])])))
    (sRet (mTup [(mVar 2), (mBI dTuple [(mBI dSortedX [(mVar 4)])])]))))
noncomputable def F_moved : List D → Res D := runF 6 2 b_moved
/-- yard state -/
noncomputable def b_sat : Sls → Fl :=
    (sRet (mTup [(mBI dMinD [(mCall F_reach [(mVar 0), (mVar 1)])]), (mOp2 dIxX (mVar 1) (mC (.int 1)))]))
noncomputable def F_sat : List D → Res D := runF 2 2 b_sat
/-- yard box found heading there -/
noncomputable def b__steps : Sls → Fl :=
    (sSeq (sSetO 2 (mLst []))
    (sSeq (sFor (mRng rng1 [(mC (.int 4))]) (tgName 3)
    (sSeq (sSet 4 (mCall F_ahead [(mVar 1), (mVar 3)]))
    (sIf (mAnd (mT (mCall F_is_open [(mFld ["Yard"] "maze" (mVar 0)), (mVar 4)])) (mT (mCall F_is_open [(mFld ["Yard"] "maze" (mVar 0)), (mCall F_ahead [(mVar 1), (mOp2 dMod (mOp2 dAdd (mVar 3) (mC (.int 2))) (mC (.int 4)))])]))) (sApp 2 (mVar 4)) sNx)))
    (sFrz 2 (sRet (mVar 2)))))
noncomputable def F__steps : List D → Res D := runF 5 2 b__steps
/-- yard every led grown more box goal there -/
noncomputable def b_dead_cells : Sls → Fl :=
    (sSeq (sSet 1 (mCall F_cells [(mFld ["Yard"] "maze" (mVar 0))]))
    (sSeq (sSetO 2 (mDc (mIt (mFld ["Yard"] "goals" (mVar 0))) [6] (tgName 6) mYes (mVar 6) (mC (.bl true))))
    (sSeq (sSet 3 (mC (.bl true)))
    (sSeq (whileN (mT (mVar 3)) (sSeq (sSet 4 (mLc (mIt (mVar 1)) [5] (tgName 5) (mAnd (mT (mOp2 dNotInX (mVar 5) (mVarB 2))) (mT (mBI dAny [(mLc (mIt (mCall F__steps [(mVar 0), (mVar 5)])) [7] (tgName 7) mYes (mOp2 dInX (mVar 7) (mVarB 2)))]))) (mVar 5)))
    (sSeq (sFor (mIt (mVar 4)) (tgName 5)
    (sPut 2 (mVar 5) (mC (.bl true))))
    (sSet 3 (mOp2 dGtX (mBI dLenX [(mVar 4)]) (mC (.int 0)))))) 1000)
    (sRet (mBI dTuple [(mLc (mIt (mVar 1)) [5] (tgName 5) (mT (mOp2 dNotInX (mVar 5) (mVarB 2))) (mVar 5))]))))))
noncomputable def F_dead_cells : List D → Res D := runF 8 1 b_dead_cells
/-- yard value cell there -/
noncomputable def b_dead_fault : Sls → Fl :=
    (sSeq (sIf (mNot (mT (mCall F_are_cells [(mFld ["Yard"] "maze" (mVar 0)), (mVar 1)]))) (sRet (mC (.str "form"))) sNx)
    (sSeq (sFor (mIt (mVar 1)) (tgName 2)
    (sIf (mT (mOp2 dInX (mVar 2) (mFld ["Yard"] "goals" (mVar 0)))) (sRet (mTup [(mC (.str "goal")), (mVar 2)])) sNx))
    (sSeq (sFor (mIt (mVar 1)) (tgName 2)
    (sIf (mNot (mT (mBI dAll [(mLc (mIt (mCall F__steps [(mVar 0), (mVar 2)])) [3] (tgName 3) mYes (mOp2 dInX (mVar 3) (mVar 1)))]))) (sRet (mTup [(mC (.str "out")), (mVar 2)])) sNx))
    (sRet (mC .non)))))
noncomputable def F_dead_fault : List D → Res D := runF 4 2 b_dead_fault
/-- yard state first levels came layer solved later one push other -/
noncomputable def b__searched : Sls → Fl :=
    (sSeq (sSet 2 (mCall F_sat [(mVar 0), (mVar 1)]))
    (sSeq (sSetO 3 (mDisp1 (mVar 2) (mC (.int 0))))
    (sSeq (sSetO 4 (mDisp1 (mVar 2) (mC .non)))
    (sSeq (sSet 5 (mLst [(mVar 2)]))
    (sSeq (whileN (mT (mOp2 dGtX (mBI dLenX [(mVar 5)]) (mC (.int 0)))) (sSeq (sSet 6 (mBI dSortedX [(mLc (mIt (mVar 5)) [8] (tgName 8) (mT (mOp2 dEq (mOp2 dIxX (mVar 8) (mC (.int 1))) (mFld ["Yard"] "goals" (mVar 0)))) (mVar 8))]))
    (sSeq (sIf (mT (mOp2 dGtX (mBI dLenX [(mVar 6)]) (mC (.int 0)))) (sFrz 4 (sFrz 3 (sRet (mTup [(mVar 3), (mVar 4), (mOp2 dIxX (mVar 6) (mC (.int 0)))])))) sNx)
    (sSeq (sSetO 7 (mLst []))
    (sSeq (sFor (mIt (mVar 5)) (tgName 8)
    (sFor (mIt (mCall F_all_pushes [(mVar 0), (mVar 8)])) (tgName 9)
    (sSeq (sSet 10 (mCall F_sat [(mVar 0), (mCall F_moved [(mVar 8), (mVar 9)])]))
    (sIf (mT (mOp2 dNotInX (mVar 10) (mVarB 3))) (sSeq (sPut 3 (mVar 10) (mOp2 dAdd (mOp2 dIxX (mVarB 3) (mVar 8)) (mC (.int 1))))
    (sSeq (sPut 4 (mVar 10) (mTup [(mVar 8), (mVar 9)]))
    (sApp 7 (mVar 10)))) sNx))))
    (sFrz 7 (sSet 5 (mVar 7))))))) 3000)
    (sFrz 4 (sFrz 3 (sRet (mTup [(mVar 3), (mVar 4), (mC .non)])))))))))
noncomputable def F__searched : List D → Res D := runF 11 2 b__searched
/-- yard state levels came end row here push -/
noncomputable def b_solving : Sls → Fl :=
    (sSeq (sDrop (mCall F_check_state [(mVar 0), (mVar 1)]))
    (sSeq (sIf (mOr (mT (mOp2 dGtX (mBI dLenX [(mCall F_cells [(mFld ["Yard"] "maze" (mVar 0))])]) (mC (.int 20)))) (mT (mOp2 dGtX (mBI dLenX [(mFld ["Yard"] "goals" (mVar 0))]) (mC (.int 3))))) (sRaise "TooMany") sNx)
    (sSeq (sAsg (tgTup 3 (tgsCons (tgName 2) (tgsCons (tgName 3) (tgsCons (tgName 4) tgsNil)))) (mCall F__searched [(mVar 0), (mVar 1)]))
    (sSeq (sIf (mT (mOp2 dIsX (mVar 4) (mC .non))) (sRet (mTup [(mC (.str "family")), (mBI dTuple [(mBI dSortedX [(mVar 2)])])])) sNx)
    (sSeq sNev
    (sSeq sNev
    (sSeq sNev
    sNev)))))))
noncomputable def F_solving : List D → Res D := runF 8 2 b_solving
/-- script many draws seed cell number k -/
noncomputable def b__law_draws : Sls → Fl :=
    (sSeq (sSetO 2 (mLst []))
    (sSeq (sSet 3 (mC (.int 7)))
    (sSeq (sFor (mIt (mSl dSl (mVar 0) mNoPart (mPart (mC (.int 63))))) (tgName 4)
    (sSeq (sSet 5 (mBI dAbs [(mVar 4)]))
    (sSeq (sSet 3 (mOp2 dMod (mBI dInt [(mOp2 dAdd (mOp2 dAdd (mOp2 dMulX (mVar 3) (mC (.int 48271))) (mVar 5)) (mC (.int 11)))]) (mC (.int 2147483647))))
    (sIf (mT (mOp2 dGeX (mVar 5) (mOp2 dPow (mC (.int 10)) (mC (.int 18))))) (sFor (mRng rng1 [(mC (.int 60))]) (tgName 6)
    (sIf (mT (mOp2 dGtX (mVar 5) (mC (.int 0)))) (sSeq (sApp 2 (mOp2 dMod (mBI dInt [(mVar 5)]) (mC (.int 1009))))
    (sSet 5 (mOp2 dDiv (mVar 5) (mC (.int 1009))))) sNx)) (sApp 2 (mOp2 dMod (mOp2 dDiv (mBI dInt [(mOp2 dAdd (mOp2 dMulX (mVar 3) (mC (.int 16807))) (mC (.int 5)))]) (mC (.int 3))) (mC (.int 65521))))))))
    (sSeq (sFor (mRng rng1 [(mVar 1)]) (tgName 6)
    (sIf (mT (mOp2 dLtX (mBI dLenX [(mVarB 2)]) (mVar 1))) (sSeq (sSet 3 (mOp2 dMod (mBI dInt [(mOp2 dAdd (mOp2 dAdd (mOp2 dMulX (mVar 3) (mC (.int 69621))) (mVar 6)) (mC (.int 1)))]) (mC (.int 2147483647))))
    (sApp 2 (mOp2 dMod (mOp2 dDiv (mBI dInt [(mVar 3)]) (mC (.int 7))) (mC (.int 65521))))) sNx))
    (sRet (mSl dSl (mVarB 2) mNoPart (mPart (mVar 1))))))))
noncomputable def F__law_draws : List D → Res D := runF 7 2 b__law_draws
/-- rows found row column -/
noncomputable def b__law_cells : Sls → Fl :=
    (sSeq (sSetO 1 (mLst []))
    (sSeq (sFor (mRng rng1 [(mBI dLenX [(mVar 0)])]) (tgName 2)
    (sExt 1 (mLc (mRng rng1 [(mBI dLenX [(mOp2 dIxX (mVar 0) (mC (.int 0)))])]) [3] (tgName 3) (mT (mOp2 dEq (mOp2 dIxX (mOp2 dIxX (mVar 0) (mVar 2)) (mVar 3)) (mC (.str ".")))) (mTup [(mVar 2), (mVar 3)]))))
    (sFrz 1 (sRet (mVar 1)))))
noncomputable def F__law_cells : List D → Res D := runF 4 1 b__law_cells
/-- rows cell found down across row column -/
noncomputable def b__law_beside : Sls → Fl :=
    (sSeq (sSetO 2 (mLst []))
    (sSeq (sFor (mIt (mTup [(mTup [(mOp1 dNeg (mC (.int 1))), (mC (.int 0))]), (mTup [(mC (.int 0)), (mOp1 dNeg (mC (.int 1)))]), (mTup [(mC (.int 0)), (mC (.int 1))]), (mTup [(mC (.int 1)), (mC (.int 0))])])) (tgTup 2 (tgsCons (tgName 3) (tgsCons (tgName 4) tgsNil)))
    (sSeq (sPar 5 6 (mOp2 dAdd (mOp2 dIxX (mVar 1) (mC (.int 0))) (mVar 3)) (mOp2 dAdd (mOp2 dIxX (mVar 1) (mC (.int 1))) (mVar 4)))
    (sIf (mAnd (mT (mChain dLeX dLtX (mC (.int 0)) (mVar 5) (mBI dLenX [(mVar 0)]))) (mAnd (mT (mChain dLeX dLtX (mC (.int 0)) (mVar 6) (mBI dLenX [(mOp2 dIxX (mVar 0) (mC (.int 0)))]))) (mT (mOp2 dEq (mOp2 dIxX (mOp2 dIxX (mVar 0) (mVar 5)) (mVar 6)) (mC (.str ".")))))) (sApp 2 (mTup [(mVar 5), (mVar 6)])) sNx)))
    (sFrz 2 (sRet (mVar 2)))))
noncomputable def F__law_beside : List D → Res D := runF 7 2 b__law_beside
/-- draws most many height width rows cells_v count order other row k pair -/
noncomputable def b__law_yard : Sls → Fl :=
    (sSeq (sAsg (tgTup 2 (tgsCons (tgName 3) (tgsCons (tgName 4) tgsNil))) (mTup [(mOp2 dAdd (mC (.int 2)) (mOp2 dMod (mBI dInt [(mOp2 dIxX (mVar 0) (mC (.int 0)))]) (mOp2 dSub (mVar 1) (mC (.int 1))))), (mOp2 dAdd (mC (.int 2)) (mOp2 dMod (mBI dInt [(mOp2 dIxX (mVar 0) (mC (.int 1)))]) (mOp2 dSub (mVar 1) (mC (.int 1)))))]))
    (sSeq (sSet 5 (mBI dTuple [(mLc (mRng rng1 [(mVar 3)]) [10] (tgName 10) mYes (mM1 dJoin (mC (.str "")) (mLc (mRng rng1 [(mVar 4)]) [11] (tgName 11) mYes (mOp2 dIxX (mC (.str ".#")) (mBI dInt [(mOp2 dEq (mOp2 dMod (mOp2 dDiv (mBI dInt [(mOp2 dIxX (mVar 0) (mOp2 dMod (mOp2 dAdd (mOp2 dAdd (mC (.int 2)) (mOp2 dMulX (mC (.int 7)) (mVar 10))) (mVar 11)) (mC (.int 40))))]) (mC (.int 5))) (mC (.int 6))) (mC (.int 0)))])))))]))
    (sSeq (sSet 6 (mCall F__law_cells [(mVar 5)]))
    (sSeq (sIf (mT (mOp2 dLtX (mBI dLenX [(mVar 6)]) (mC (.int 2)))) (sSeq (sSet 5 (mOp2 dAdd (mTup [(mOp2 dMulX (mC (.str ".")) (mVar 4))]) (mSl dSl (mVar 5) (mPart (mC (.int 1))) mNoPart)))
    (sSet 6 (mCall F__law_cells [(mVar 5)]))) sNx)
    (sSeq (sSet 7 (mOp2 dAdd (mC (.int 1)) (mOp2 dMod (mBI dInt [(mOp2 dIxX (mVar 0) (mC (.int 41)))]) (mBI dMinX [(mVar 2), (mOp2 dSub (mBI dLenX [(mVar 6)]) (mC (.int 1)))]))))
    (sSeq (sSet 8 (mLc (mIt (mBI dSortedX [(mLc (mRng rng1 [(mBI dLenX [(mVar 6)])]) [11] (tgName 11) mYes (mTup [(mOp2 dMod (mOp2 dMulX (mBI dInt [(mOp2 dIxX (mVar 0) (mOp2 dAdd (mC (.int 42)) (mOp2 dMod (mVar 11) (mC (.int 14)))))]) (mOp2 dAdd (mVar 11) (mC (.int 3)))) (mC (.int 1009))), (mVar 11)]))])) [12] (tgName 12) mYes (mOp2 dIxX (mVar 6) (mOp2 dIxX (mVar 12) (mC (.int 1))))))
    (sSeq (sSet 9 (mLc (mIt (mBI dSortedX [(mLc (mRng rng1 [(mBI dLenX [(mVar 6)])]) [11] (tgName 11) mYes (mTup [(mOp2 dMod (mOp2 dMulX (mBI dInt [(mOp2 dIxX (mVar 0) (mOp2 dAdd (mC (.int 56)) (mOp2 dMod (mVar 11) (mC (.int 14)))))]) (mOp2 dAdd (mVar 11) (mC (.int 5)))) (mC (.int 1009))), (mVar 11)]))])) [12] (tgName 12) mYes (mOp2 dIxX (mVar 6) (mOp2 dIxX (mVar 12) (mC (.int 1))))))
    (sRet (mTup [(mVar 5), (mBI dTuple [(mBI dSortedX [(mSl dSl (mVar 8) mNoPart (mPart (mVar 7)))])]), (mTup [(mOp2 dIxX (mVar 9) (mC (.int 0))), (mBI dTuple [(mBI dSortedX [(mSl dSl (mVar 9) (mPart (mC (.int 1))) (mPart (mOp2 dAdd (mVar 7) (mC (.int 1)))))])])])])))))))))
noncomputable def F__law_yard : List D → Res D := runF 13 3 b__law_yard
/-- cell heading -/
noncomputable def b__law_step : Sls → Fl :=
    (sRet (mTup [(mOp2 dAdd (mOp2 dIxX (mVar 0) (mC (.int 0))) (mOp2 dIxX (mTup [(mOp1 dNeg (mC (.int 1))), (mC (.int 0)), (mC (.int 1)), (mC (.int 0))]) (mVar 1))), (mOp2 dAdd (mOp2 dIxX (mVar 0) (mC (.int 1))) (mOp2 dIxX (mTup [(mC (.int 0)), (mC (.int 1)), (mC (.int 0)), (mOp1 dNeg (mC (.int 1)))]) (mVar 1)))]))
noncomputable def F__law_step : List D → Res D := runF 2 2 b__law_step
/-- rows box cells_v heading -/
noncomputable def b__law_out : Sls → Fl :=
    (sSeq (sSet 2 (mCall F__law_cells [(mVar 0)]))
    (sRet (mLc (mRng rng1 [(mC (.int 4))]) [3] (tgName 3) (mAnd (mT (mOp2 dInX (mCall F__law_step [(mVar 1), (mVar 3)]) (mVar 2))) (mT (mOp2 dInX (mCall F__law_step [(mVar 1), (mOp2 dMod (mOp2 dAdd (mVar 3) (mC (.int 2))) (mC (.int 4)))]) (mVar 2)))) (mCall F__law_step [(mVar 1), (mVar 3)]))))
noncomputable def F__law_out : List D → Res D := runF 4 2 b__law_out
/-- rows goals box seen waits here there -/
noncomputable def b__law_is_led : Sls → Fl :=
    (sSeq (sParNN 3 4 (mLst [(mVar 2)]) (mLst [(mVar 2)]))
    (sSeq (whileN (mT (mOp2 dGtX (mBI dLenX [(mVarB 4)]) (mC (.int 0)))) (sSeq (sPop 4 5)
    (sSeq (sIf (mT (mOp2 dInX (mVar 5) (mVar 1))) (sRet (mC (.bl true))) sNx)
    (sFor (mIt (mCall F__law_out [(mVar 0), (mVar 5)])) (tgName 6)
    (sIf (mT (mOp2 dNotInX (mVar 6) (mVarB 3))) (sSeq (sApp 3 (mVar 6))
    (sApp 4 (mVar 6))) sNx)))) 1000)
    (sRet (mC (.bl false)))))
noncomputable def F__law_is_led : List D → Res D := runF 7 3 b__law_is_led
/-- rows goals value cell bad out one there -/
noncomputable def b__law_fault : Sls → Fl :=
    (sSeq (sIf (mNot (mT (mBI dIsi [(mVar 2), (mC (.ty "tuple"))]))) (sRet (mC (.str "form"))) sNx)
    (sSeq (sFor (mIt (mVar 2)) (tgName 3)
    (sIf (mOr (mNot (mT (mBI dIsi [(mVar 3), (mC (.ty "tuple"))]))) (mOr (mT (mOp2 dNe (mBI dLenX [(mVar 3)]) (mC (.int 2)))) (mOr (mNot (mT (mBI dAll [(mLc (mIt (mVar 3)) [6] (tgName 6) mYes (mAndV (mBI dIsi [(mVar 6), (mC (.ty "int"))]) (mNotV (mBI dIsi [(mVar 6), (mC (.ty "bool"))]))))]))) (mT (mOp2 dNotInX (mVar 3) (mCall F__law_cells [(mVar 0)])))))) (sRet (mC (.str "form"))) sNx))
    (sSeq (sIf (mT (mOp2 dNe (mBI dList [(mVar 2)]) (mBI dSS [(mVar 2)]))) (sRet (mC (.str "form"))) sNx)
    (sSeq (sSet 4 (mLc (mIt (mVar 2)) [3] (tgName 3) (mT (mOp2 dInX (mVar 3) (mVar 1))) (mVar 3)))
    (sSeq (sIf (mT (mOp2 dGtX (mBI dLenX [(mVar 4)]) (mC (.int 0)))) (sRet (mTup [(mC (.str "goal")), (mOp2 dIxX (mVar 4) (mC (.int 0)))])) sNx)
    (sSeq (sSet 5 (mLc (mIt (mVar 2)) [3] (tgName 3) (mNot (mT (mBI dAll [(mLc (mIt (mCall F__law_out [(mVar 0), (mVar 3)])) [7] (tgName 7) mYes (mOp2 dInX (mVar 7) (mVar 2)))]))) (mVar 3)))
    (sRet (mIf (mT (mOp2 dGtX (mBI dLenX [(mVar 5)]) (mC (.int 0)))) (mTup [(mC (.str "out")), (mOp2 dIxX (mVar 5) (mC (.int 0)))]) (mC .non)))))))))
noncomputable def F__law_fault : List D → Res D := runF 8 3 b__law_fault
/-- script draws rows goals state yard cells_v dead k some part one fault cell goal j box -/
noncomputable def b_law : Sls → Fl :=
    (sSeq (sSet 1 (mCall F__law_draws [(mVar 0), (mC (.int 110))]))
    (sSeq (sAsg (tgTup 3 (tgsCons (tgName 2) (tgsCons (tgName 3) (tgsCons (tgName 4) tgsNil)))) (mCall F__law_yard [(mVar 1), (mC (.int 5)), (mC (.int 3))]))
    (sSeq (sPar 5 6 (mMakeE F_Yard [(mMakeE F_Maze [(mVar 2)]), (mVar 3)]) (mCall F__law_cells [(mVar 2)]))
    (sSeq (sSet 7 (mBI dTuple [(mLc (mIt (mVar 6)) [13] (tgName 13) (mNot (mT (mCall F__law_is_led [(mVar 2), (mVar 3), (mVar 13)]))) (mVar 13))]))
    (sSeq (sIf (mOr (mT (mOp2 dNe (mCall F_dead_cells [(mVar 5)]) (mVar 7))) (mOr (mT (mOp2 dNotX (mCall F_dead_fault [(mVar 5), (mVar 7)]) (mC .non))) (mT (mBI dAny [(mLc (mIt (mVar 3)) [14] (tgName 14) mYes (mOp2 dInX (mVar 14) (mVar 7)))])))) (sRet (mC (.bl false))) sNx)
    (sSeq (sFor (mRng rng1 [(mC (.int 6))]) (tgName 8)
    (sSeq (sSet 9 (mBI dTuple [(mLc (mEnum (mVar 6)) [15, 13] (tgTup 2 (tgsCons (tgName 15) (tgsCons (tgName 13) tgsNil))) (mT (mOp2 dEq (mOp2 dMod (mOp2 dDiv (mBI dInt [(mOp2 dIxX (mVar 1) (mOp2 dAdd (mC (.int 72)) (mVar 8)))]) (mOp2 dAdd (mC (.int 1)) (mVar 15))) (mC (.int 3))) (mC (.int 0)))) (mVar 13))]))
    (sSeq (sSet 10 (mBI dTuple [(mLc (mIt (mVar 7)) [13] (tgName 13) (mT (mOp2 dInX (mVar 13) (mVar 9))) (mVar 13))]))
    (sFor (mIt (mTup [(mVar 9), (mVar 10), (mOp2 dAdd (mVar 7) (mVar 9)), (mBI dList [(mVar 7)]), (mC .non), (mTup [(mC (.bl true))]), (mOp1 dRevT (mVar 7)), (mBI dTuple [(mVar 6)]), (mSl dSl (mVar 7) (mPart (mC (.int 1))) mNoPart)])) (tgName 11)
    (sSeq (sSet 12 (mCall F__law_fault [(mVar 2), (mVar 3), (mVar 11)]))
    (sIf (mOr (mT (mOp2 dNe (mCall F_dead_fault [(mVar 5), (mVar 11)]) (mVar 12))) (mAnd (mT (mOp2 dIsX (mVar 12) (mC .non))) (mNot (mT (mBI dAll [(mLc (mIt (mVar 11)) [13] (tgName 13) mYes (mOp2 dInX (mVar 13) (mVar 7)))]))))) (sRet (mC (.bl false))) sNx))))))
    (sSeq (sIf (mAnd (mT (mOp2 dLeX (mBI dLenX [(mVar 6)]) (mC (.int 14)))) (mAnd (mT (mOp2 dLtX (mBI dLenX [(mVar 3)]) (mC (.int 3)))) (mAnd (mT (mBI dAny [(mLc (mIt (mOp2 dIxX (mVar 4) (mC (.int 1)))) [16] (tgName 16) mYes (mOp2 dInX (mVar 16) (mVar 7)))])) (mAnd (mT (mOp2 dNe (mOp2 dIxX (mCall F_solving [(mVar 5), (mVar 4)]) (mC (.int 0))) (mC (.str "family")))) (mT (mOp2 dNe (mOp2 dIxX (mVar 4) (mC (.int 1))) (mVar 3))))))) (sRet (mC (.bl false))) sNx)
    (sRet (mC (.bl true))))))))))
noncomputable def F_law : List D → Res D := runF 17 1 b_law
structure Facts (w : World) (K : PySem.W.Frag) (mg : Str → Option Value) : Prop where
  ct_GOES : CTup K "GOES" (.tup [.tup [.int (-1), .int 0], .tup [.int 0, .int 1], .tup [.int 1, .int 0], .tup [.int 0, .int (-1)]])
  ct_STEPS : CTup K "STEPS" (.tup [.tup [.int (-1), .int 0], .tup [.int 0, .int (-1)], .tup [.int 0, .int 1], .tup [.int 1, .int 0]])
  d_Maze : DefK K (inClass (top 12) 0) "__init__" "Maze.__init__" (He.ma K (He.ga K "Maze") "__init__") ["self", "rows"]
  d_Yard : DefK K (inClass (top 21) 0) "__init__" "Yard.__init__" (He.ma K (He.ga K "Yard") "__init__") ["self", "maze", "goals"]
  d__law_beside : DefK K (top 43) "_law_beside" "_law_beside" (He.ga K "_law_beside") ["rows", "cell"]
  d__law_cells : DefK K (top 42) "_law_cells" "_law_cells" (He.ga K "_law_cells") ["rows"]
  d__law_draws : DefK K (top 40) "_law_draws" "_law_draws" (He.ga K "_law_draws") ["script", "many"]
  d__law_fault : DefK K (top 53) "_law_fault" "_law_fault" (He.ga K "_law_fault") ["rows", "goals", "value"]
  d__law_is_led : DefK K (top 52) "_law_is_led" "_law_is_led" (He.ga K "_law_is_led") ["rows", "goals", "box"]
  d__law_out : DefK K (top 51) "_law_out" "_law_out" (He.ga K "_law_out") ["rows", "box"]
  d__law_step : DefK K (top 46) "_law_step" "_law_step" (He.ga K "_law_step") ["cell", "heading"]
  d__law_yard : DefK K (top 45) "_law_yard" "_law_yard" (He.ga K "_law_yard") ["draws", "most", "many"]
  d__searched : DefK K (top 37) "_searched" "_searched" (He.ga K "_searched") ["yard", "state"]
  d__steps : DefK K (top 31) "_steps" "_steps" (He.ga K "_steps") ["yard", "box"]
  d_ahead : DefK K (top 24) "ahead" "ahead" (He.ga K "ahead") ["cell", "heading"]
  d_all_pushes : DefK K (top 27) "all_pushes" "all_pushes" (He.ga K "all_pushes") ["yard", "state"]
  d_are_cells : DefK K (top 20) "are_cells" "are_cells" (He.ga K "are_cells") ["maze", "value"]
  d_beside : DefK K (top 16) "beside" "beside" (He.ga K "beside") ["maze", "cell"]
  d_cells : DefK K (top 15) "cells" "cells" (He.ga K "cells") ["maze"]
  d_check_state : DefK K (top 23) "check_state" "check_state" (He.ga K "check_state") ["yard", "state"]
  d_dead_cells : DefK K (top 32) "dead_cells" "dead_cells" (He.ga K "dead_cells") ["yard"]
  d_dead_fault : DefK K (top 33) "dead_fault" "dead_fault" (He.ga K "dead_fault") ["yard", "value"]
  d_is_cell : DefK K (top 13) "is_cell" "is_cell" (He.ga K "is_cell") ["maze", "value"]
  d_is_free : DefK K (top 26) "is_free" "is_free" (He.ga K "is_free") ["yard", "boxes", "cell"]
  d_is_open : DefK K (top 14) "is_open" "is_open" (He.ga K "is_open") ["maze", "cell"]
  d_is_state : DefK K (top 22) "is_state" "is_state" (He.ga K "is_state") ["yard", "value"]
  d_is_whole : DefK K (top 11) "is_whole" "is_whole" (He.ga K "is_whole") ["value", "least", "most"]
  d_law : DefK K (top 54) "law" "law" (He.ga K "law") ["script"]
  d_moved : DefK K (top 28) "moved" "moved" (He.ga K "moved") ["state", "push"]
  d_reach : DefK K (top 25) "reach" "reach" (He.ga K "reach") ["yard", "state"]
  d_sat : DefK K (top 29) "sat" "sat" (He.ga K "sat") ["yard", "state"]
  d_solving : DefK K (top 38) "solving" "solving" (He.ga K "solving") ["yard", "state"]
  fld_Maze_height : FldOk K "height" "Maze"
  fld_Maze_rows : FldOk K "rows" "Maze"
  fld_Maze_width : FldOk K "width" "Maze"
  fld_Yard_goals : FldOk K "goals" "Yard"
  fld_Yard_maze : FldOk K "maze" "Yard"
  b_abs : mg "abs" = none
  b_all : mg "all" = none
  b_any : mg "any" = none
  b_bool : mg "bool" = none
  b_enumerate : mg "enumerate" = none
  b_int : mg "int" = none
  b_isinstance : mg "isinstance" = none
  b_len : mg "len" = none
  b_list : mg "list" = none
  b_min : mg "min" = none
  b_range : mg "range" = none
  b_set : mg "set" = none
  b_sorted : mg "sorted" = none
  b_str : mg "str" = none
  b_tuple : mg "tuple" = none
  g_GOES : mg "GOES" = some (.ref (He.ga K "GOES"))
  g_Maze : mg "Maze" = some (.ref (He.ga K "Maze"))
  g_OTHERS : mg "OTHERS" = some (.ref (He.ga K "OTHERS"))
  g_STEPS : mg "STEPS" = some (.ref (He.ga K "STEPS"))
  g_Yard : mg "Yard" = some (.ref (He.ga K "Yard"))
  g__law_beside : mg "_law_beside" = some (.ref (He.ga K "_law_beside"))
  g__law_cells : mg "_law_cells" = some (.ref (He.ga K "_law_cells"))
  g__law_draws : mg "_law_draws" = some (.ref (He.ga K "_law_draws"))
  g__law_fault : mg "_law_fault" = some (.ref (He.ga K "_law_fault"))
  g__law_is_led : mg "_law_is_led" = some (.ref (He.ga K "_law_is_led"))
  g__law_out : mg "_law_out" = some (.ref (He.ga K "_law_out"))
  g__law_step : mg "_law_step" = some (.ref (He.ga K "_law_step"))
  g__law_yard : mg "_law_yard" = some (.ref (He.ga K "_law_yard"))
  g__searched : mg "_searched" = some (.ref (He.ga K "_searched"))
  g__steps : mg "_steps" = some (.ref (He.ga K "_steps"))
  g_ahead : mg "ahead" = some (.ref (He.ga K "ahead"))
  g_all_pushes : mg "all_pushes" = some (.ref (He.ga K "all_pushes"))
  g_are_cells : mg "are_cells" = some (.ref (He.ga K "are_cells"))
  g_beside : mg "beside" = some (.ref (He.ga K "beside"))
  g_cells : mg "cells" = some (.ref (He.ga K "cells"))
  g_check_state : mg "check_state" = some (.ref (He.ga K "check_state"))
  g_dead_cells : mg "dead_cells" = some (.ref (He.ga K "dead_cells"))
  g_dead_fault : mg "dead_fault" = some (.ref (He.ga K "dead_fault"))
  g_is_cell : mg "is_cell" = some (.ref (He.ga K "is_cell"))
  g_is_free : mg "is_free" = some (.ref (He.ga K "is_free"))
  g_is_open : mg "is_open" = some (.ref (He.ga K "is_open"))
  g_is_state : mg "is_state" = some (.ref (He.ga K "is_state"))
  g_is_whole : mg "is_whole" = some (.ref (He.ga K "is_whole"))
  g_law : mg "law" = some (.ref (He.ga K "law"))
  g_moved : mg "moved" = some (.ref (He.ga K "moved"))
  g_reach : mg "reach" = some (.ref (He.ga K "reach"))
  g_sat : mg "sat" = some (.ref (He.ga K "sat"))
  g_solving : mg "solving" = some (.ref (He.ga K "solving"))
  i_MOST : ∃ t, mg "MOST" = some (.int 14 t)
  i_MOST_BOXES : ∃ t, mg "MOST_BOXES" = some (.int 3 t)
  i_MOST_CELLS : ∃ t, mg "MOST_CELLS" = some (.int 20 t)
  i_MOST_GOALS : ∃ t, mg "MOST_GOALS" = some (.int 4 t)
  mk_Maze : Mk K (He.ga K "Maze") (He.ma K (He.ga K "Maze") "__init__")
  mk_Yard : Mk K (He.ga K "Yard") (He.ma K (He.ga K "Yard") "__init__")
  ra_BadMaze : ExcF K mg "BadMaze"
  ra_BadState : ExcF K mg "BadState"
  ra_BadYard : ExcF K mg "BadYard"
  ra_TooMany : ExcF K mg "TooMany"
  s_OPEN : ∃ t, mg "OPEN" = some (.str "." t)
  t_OTHERS : KTab K w "OTHERS" tb_OTHERS
section
variable {P : Program} {w : World} {K : PySem.W.Frag} {mg : Str → Option Value} {base : Heap}
theorem S_is_whole : FnScope ["value", "least", "most"] ["value", "least", "most"] (defScope (top 11)) := ⟨rfl, rfl, rfl, by decide +kernel, rfl, by decide +kernel, by decide +kernel⟩
theorem ok_is_whole (T : Facts w K mg) : FnP P w K mg base 1 (He.ga K "is_whole") ["value", "least", "most"] (spF K F_is_whole) := by
  refine T.d_is_whole.f S_is_whole fun cdv A outer s H E hr => ?_
  have tk := L2.takes_of (X := cxOf (L2.CX P w) P w K mg base ["value", "least", "most"] "is_whole" (defScope (top 11)) (He.ga K "is_whole") cdv A outer s H E) rfl rfl rfl rfl
  have hx := fun σ => L2.passAt tk σ
  have own := L2.passes_of (X := cxOf (L2.CX P w) P w K mg base ["value", "least", "most"] "is_whole" (defScope (top 11)) (He.ga K "is_whole") cdv A outer s H E) rfl
  exact (ss_one (ss_ret (ef_and (ef_bi call_isi c_isi T.b_isinstance (ec_cons ((ef_var 0)).b (ec_cons ((ef_bty T.b_int)).b ec_nil))) (ef_and (ef_not (ef_bi call_isi c_isi T.b_isinstance (ec_cons ((ef_var 0)).b (ec_cons ((ef_bty T.b_bool)).b ec_nil)))) (ef_one (ef_chain (op_leX (un65 hr)) (op_leX (un65 hr)) o_leX o_leX ((ef_var 1)).b ((ef_var 0)).b ((ef_var 2)).b))))))
theorem S_Maze : FnScope ["self", "rows", "row", "sign"] ["self", "rows"] (defScope (inClass (top 12) 0)) := ⟨rfl, rfl, rfl, by decide +kernel, rfl, by decide +kernel, by decide +kernel⟩
theorem ok_Maze (T : Facts w K mg) : FnP P w K mg base 1 (He.ma K (He.ga K "Maze") "__init__") ["self", "rows"] (spI K "Maze" I_Maze) := by
  refine T.d_Maze.i S_Maze (n := 3) rfl fun cdv A outer s H E hr => ?_
  have tk := L2.takes_of (X := cxOf (L2.CX P w) P w K mg base ["self", "rows", "row", "sign"] "Maze.__init__" (defScope (inClass (top 12) 0)) (He.ma K (He.ga K "Maze") "__init__") cdv A outer s H E) rfl rfl rfl rfl
  have hx := fun σ => L2.passAt tk σ
  have own := L2.passes_of (X := cxOf (L2.CX P w) P w K mg base ["self", "rows", "row", "sign"] "Maze.__init__" (defScope (inClass (top 12) 0)) (He.ma K (He.ga K "Maze") "__init__") cdv A outer s H E) rfl
  exact (ss_cons (ss_if (ew_or (et_not (et_val (ef_bi call_isi c_isi T.b_isinstance (ec_cons ((ef_var 1)).b (ec_cons ((ef_bty T.b_tuple)).b ec_nil))))) (ew_or (et_not (et_chain (op_leX (un65 hr)) (op_leX (un65 hr)) o_leX o_leX (ef_int).b ((ef_bi call_lenX c_lenX T.b_len (ec_cons ((ef_var 1)).b ec_nil))).b ((ef_gint T.i_MOST)).b)) (ew_or1 (et_not (et_val (ef_bi (cr_all rfl) c_all T.b_all (ec_cons ((en_lc rfl S_Maze.nd (ei_any (ef_var 1)) (blkOk_by (own := [("row", 2)]) (by kernel_rfl)) (tg_name 2) (fun _ _ _ _ _ => (pg_name (i := 2) S_Maze.nd rfl (by first | exact Or.inl rfl | exact Or.inr rfl))) (fun _ _ _ _ _ => ets_nil) (fun _ _ _ _ _ => (ef_bi call_isi c_isi T.b_isinstance (ec_cons ((ef_var 2)).b (ec_cons ((ef_bty T.b_str)).b ec_nil)))))).b ec_nil))))))).t (ss_one (ss_raiseE rfl tk T.ra_BadMaze.ra)) ss_nil)
    (ss_cons (ss_if (ew_or (et_not (et_chain (op_leX (un65 hr)) (op_leX (un65 hr)) o_leX o_leX (ef_int).b ((ef_bi call_lenX c_lenX T.b_len (ec_cons ((ef_ix (ix_any (un65 hr)) o_ixX ((ef_var 1)).b (ef_int).b)).b ec_nil))).b ((ef_gint T.i_MOST)).b)) (ew_or1 (et_not (et_val (ef_bi (cr_all rfl) c_all T.b_all (ec_cons ((en_lc rfl S_Maze.nd (ei_any (ef_var 1)) (blkOk_by (own := [("row", 2)]) (by kernel_rfl)) (tg_name 2) (fun _ _ _ _ _ => (pg_name (i := 2) S_Maze.nd rfl (by first | exact Or.inl rfl | exact Or.inr rfl))) (fun _ _ _ _ _ => ets_nil) (fun _ _ _ _ _ => (ef_cmp (op_eqA hr.units) o_eq ((ef_bi call_lenX c_lenX T.b_len (ec_cons ((ef_var 2)).b ec_nil))).b ((ef_bi call_lenX c_lenX T.b_len (ec_cons ((ef_ix (ix_any (un65 hr)) o_ixX ((ef_var 1)).b (ef_int).b)).b ec_nil))).b rfl)))).b ec_nil)))))).t (ss_one (ss_raiseE rfl tk T.ra_BadMaze.ra)) ss_nil)
    (ss_cons (ss_if (et_not (et_val (ef_bi (cr_all rfl) c_all T.b_all (ec_cons ((en_lc rfl S_Maze.nd (ei_any (ef_var 1)) (blkOk_by (own := [("row", 2)]) (by kernel_rfl)) (tg_name 2) (fun _ _ _ _ _ => (pg_name (i := 2) S_Maze.nd rfl (by first | exact Or.inl rfl | exact Or.inr rfl))) (fun _ _ _ _ _ => ets_nil) (fun _ _ _ _ _ => (ef_cmp (op_eqA hr.units) o_eq ((ef_bi call_lenX c_lenX T.b_len (ec_cons ((en_lc rfl S_Maze.nd (ei_any (ef_var 2)) (blkOk_by (own := [("sign", 3)]) (by kernel_rfl)) (tg_name 3) (fun _ _ _ _ _ => (pg_name (i := 3) S_Maze.nd rfl (by first | exact Or.inl rfl | exact Or.inr rfl))) (fun _ _ _ _ _ => (ets_one (et_knotin T.t_OTHERS T.g_OTHERS (ef_var 3)))) (fun _ _ _ _ _ => (ef_var 3)))).b ec_nil))).b (ef_int).b rfl)))).b ec_nil)))) (ss_one (ss_raiseE rfl tk T.ra_BadMaze.ra)) ss_nil)
    (ss_cons (ss_fld 0 T.fld_Maze_rows (ef_var 1))
    (ss_cons (ss_fld 0 T.fld_Maze_height (ef_bi call_lenX c_lenX T.b_len (ec_cons ((ef_var 1)).b ec_nil)))
    (ss_one (ss_fld 0 T.fld_Maze_width (ef_bi call_lenX c_lenX T.b_len (ec_cons ((ef_ix (ix_any (un65 hr)) o_ixX ((ef_var 1)).b (ef_int).b)).b ec_nil)))))))))
theorem S_is_cell : FnScope ["maze", "value"] ["maze", "value"] (defScope (top 13)) := ⟨rfl, rfl, rfl, by decide +kernel, rfl, by decide +kernel, by decide +kernel⟩
theorem ok_is_cell (T : Facts w K mg) : FnP P w K mg base 2 (He.ga K "is_cell") ["maze", "value"] (spF K F_is_cell) := by
  obtain ⟨⟨fd_is_whole, G_is_whole, b_is_whole, _⟩, kp_is_whole⟩ := ok_is_whole T (P := P) (base := base)
  refine T.d_is_cell.f S_is_cell fun cdv A outer s H E hr => ?_
  have tk := L2.takes_of (X := cxOf (L2.CX P w) P w K mg base ["maze", "value"] "is_cell" (defScope (top 13)) (He.ga K "is_cell") cdv A outer s H E) rfl rfl rfl rfl
  have hx := fun σ => L2.passAt tk σ
  have own := L2.passes_of (X := cxOf (L2.CX P w) P w K mg base ["maze", "value"] "is_cell" (defScope (top 13)) (He.ga K "is_cell") cdv A outer s H E) rfl
  exact (ss_cons (ss_if (ew_or (et_not (et_val (ef_bi call_isi c_isi T.b_isinstance (ec_cons ((ef_var 1)).b (ec_cons ((ef_bty T.b_tuple)).b ec_nil))))) (ew_or1 (et_cmp (op_neA hr.units) o_ne ((ef_bi call_lenX c_lenX T.b_len (ec_cons ((ef_var 1)).b ec_nil))).b (ef_int).b rfl))).t (ss_one (ss_ret ef_bl)) ss_nil)
    (ss_one (ss_ret (ef_and (ef_call G_is_whole (hr.mono (by decide : 1 ≤ 1)) T.g_is_whole kp_is_whole b_is_whole hx (ea_cons (ef_ix (ix_any (un65 hr)) o_ixX ((ef_var 1)).b (ef_int).b) (ea_cons ef_int (ea_cons (ef_op op_sub o_sub ((ef_fld (cons_of T.fld_Maze_height none_of) ((ef_var 0)).b)).b (ef_int).b) ea_nil)))) (ef_one (ef_call G_is_whole (hr.mono (by decide : 1 ≤ 1)) T.g_is_whole kp_is_whole b_is_whole hx (ea_cons (ef_ix (ix_any (un65 hr)) o_ixX ((ef_var 1)).b (ef_int).b) (ea_cons ef_int (ea_cons (ef_op op_sub o_sub ((ef_fld (cons_of T.fld_Maze_width none_of) ((ef_var 0)).b)).b (ef_int).b) ea_nil)))))))))
theorem S_is_open : FnScope ["maze", "cell"] ["maze", "cell"] (defScope (top 14)) := ⟨rfl, rfl, rfl, by decide +kernel, rfl, by decide +kernel, by decide +kernel⟩
theorem ok_is_open (T : Facts w K mg) : FnP P w K mg base 3 (He.ga K "is_open") ["maze", "cell"] (spF K F_is_open) := by
  obtain ⟨⟨fd_is_cell, G_is_cell, b_is_cell, _⟩, kp_is_cell⟩ := ok_is_cell T (P := P) (base := base)
  refine T.d_is_open.f S_is_open fun cdv A outer s H E hr => ?_
  have tk := L2.takes_of (X := cxOf (L2.CX P w) P w K mg base ["maze", "cell"] "is_open" (defScope (top 14)) (He.ga K "is_open") cdv A outer s H E) rfl rfl rfl rfl
  have hx := fun σ => L2.passAt tk σ
  have own := L2.passes_of (X := cxOf (L2.CX P w) P w K mg base ["maze", "cell"] "is_open" (defScope (top 14)) (He.ga K "is_open") cdv A outer s H E) rfl
  exact (ss_one (ss_ret (ef_and (ef_call G_is_cell (hr.mono (by decide : 2 ≤ 2)) T.g_is_cell kp_is_cell b_is_cell hx (ea_cons (ef_var 0) (ea_cons (ef_var 1) ea_nil))) (ef_one (ef_cmp (op_eqA hr.units) o_eq ((ef_ix (ix_any (un65 hr)) o_ixX ((ef_ix (ix_any (un65 hr)) o_ixX ((ef_fld (cons_of T.fld_Maze_rows none_of) ((ef_var 0)).b)).b ((ef_ix (ix_any (un65 hr)) o_ixX ((ef_var 1)).b (ef_int).b)).b)).b ((ef_ix (ix_any (un65 hr)) o_ixX ((ef_var 1)).b (ef_int).b)).b)).b ((ef_gstr T.s_OPEN)).b rfl)))))
theorem S_cells : FnScope ["maze", "found", "row", "column"] ["maze"] (defScope (top 15)) := ⟨rfl, rfl, rfl, by decide +kernel, rfl, by decide +kernel, by decide +kernel⟩
theorem ok_cells (T : Facts w K mg) : FnP P w K mg base 1 (He.ga K "cells") ["maze"] (spF K F_cells) := by
  refine T.d_cells.f S_cells fun cdv A outer s H E hr => ?_
  have tk := L2.takes_of (X := cxOf (L2.CX P w) P w K mg base ["maze", "found", "row", "column"] "cells" (defScope (top 15)) (He.ga K "cells") cdv A outer s H E) rfl rfl rfl rfl
  have hx := fun σ => L2.passAt tk σ
  have own := L2.passes_of (X := cxOf (L2.CX P w) P w K mg base ["maze", "found", "row", "column"] "cells" (defScope (top 15)) (He.ga K "cells") cdv A outer s H E) rfl
  exact (ss_cons (ss_setO 1 (en_lst ea_nil) S_cells.nd)
    (ss_cons (ss_for (vs := [2]) own rfl (ei_range1 T.b_range (ea_cons (ef_fld (cons_of T.fld_Maze_height none_of) ((ef_var 0)).b) ea_nil)) (pg_name (i := 2) S_cells.nd rfl (by first | exact Or.inl rfl | exact Or.inr rfl)) (tg_name 2)
    (ss_one (ss_ext 1 (en_lc rfl S_cells.nd (ei_range1 T.b_range (ea_cons (ef_fld (cons_of T.fld_Maze_width none_of) ((ef_var 0)).b) ea_nil)) (blkOk_by (own := [("column", 3)]) (by kernel_rfl)) (tg_name 3) (fun _ _ _ _ _ => (pg_name (i := 3) S_cells.nd rfl (by first | exact Or.inl rfl | exact Or.inr rfl))) (fun _ _ _ _ _ => (ets_one (et_cmp (op_eqA hr.units) o_eq ((ef_ix (ix_any (un65 hr)) o_ixX ((ef_ix (ix_any (un65 hr)) o_ixX ((ef_fld (cons_of T.fld_Maze_rows none_of) ((ef_var 0)).b)).b ((ef_var 2)).b)).b ((ef_var 3)).b)).b ((ef_gstr T.s_OPEN)).b rfl))) (fun _ _ _ _ _ => (ef_tup (ea_cons (ef_var 2) (ea_cons (ef_var 3) ea_nil))))))))
    (ss_one (ss_ret (ef_bt call_tuple_of c_tuple T.b_tuple (ec_cons (eb_var 1) ec_nil))))))
theorem S_beside : FnScope ["maze", "cell", "found", "down", "across", "one"] ["maze", "cell"] (defScope (top 16)) := ⟨rfl, rfl, rfl, by decide +kernel, rfl, by decide +kernel, by decide +kernel⟩
theorem ok_beside (T : Facts w K mg) : FnP P w K mg base 4 (He.ga K "beside") ["maze", "cell"] (spF K F_beside) := by
  obtain ⟨⟨fd_is_open, G_is_open, b_is_open, _⟩, kp_is_open⟩ := ok_is_open T (P := P) (base := base)
  refine T.d_beside.f S_beside fun cdv A outer s H E hr => ?_
  have tk := L2.takes_of (X := cxOf (L2.CX P w) P w K mg base ["maze", "cell", "found", "down", "across", "one"] "beside" (defScope (top 16)) (He.ga K "beside") cdv A outer s H E) rfl rfl rfl rfl
  have hx := fun σ => L2.passAt tk σ
  have own := L2.passes_of (X := cxOf (L2.CX P w) P w K mg base ["maze", "cell", "found", "down", "across", "one"] "beside" (defScope (top 16)) (He.ga K "beside") cdv A outer s H E) rfl
  exact (ss_cons (ss_setLc 2 rfl S_beside.nd rfl (sw_true rfl rfl rfl (by decide +kernel)) (ei_any (ef_gtup T.ct_STEPS T.g_STEPS)) (blkOk_by (own := [("down", 3), ("across", 4)]) (by kernel_rfl)) (tg_tup (tgs_cons (tg_name 3) (tgs_cons (tg_name 4) tgs_nil))) (fun _ _ _ _ _ => (pg_tup rfl (pgs_cons (pg_name (i := 3) S_beside.nd rfl (by first | exact Or.inl rfl | exact Or.inr rfl)) (pgs_cons (pg_name (i := 4) S_beside.nd rfl (by first | exact Or.inl rfl | exact Or.inr rfl)) pgs_nil)))) (fun _ _ _ _ _ => ets_nil) (fun _ _ _ _ _ => (ef_tup (ea_cons (ef_op op_addA o_add ((ef_ix (ix_any (un65 hr)) o_ixX ((ef_var 1)).b (ef_int).b)).b ((ef_var 3)).b) (ea_cons (ef_op op_addA o_add ((ef_ix (ix_any (un65 hr)) o_ixX ((ef_var 1)).b (ef_int).b)).b ((ef_var 4)).b) ea_nil)))))
    (ss_one (ss_ret (ef_bt call_tuple_of c_tuple T.b_tuple (ec_cons ((en_lc rfl S_beside.nd (ei_any (ef_var 2)) (blkOk_by (own := [("one", 5)]) (by kernel_rfl)) (tg_name 5) (fun _ _ _ _ _ => (pg_name (i := 5) S_beside.nd rfl (by first | exact Or.inl rfl | exact Or.inr rfl))) (fun _ _ _ _ _ => (ets_one (et_val (ef_call G_is_open (hr.mono (by decide : 3 ≤ 3)) T.g_is_open kp_is_open b_is_open passB (ea_cons (ef_var 0) (ea_cons (ef_var 5) ea_nil)))))) (fun _ _ _ _ _ => (ef_var 5)))).b ec_nil)))))
theorem S_are_cells : FnScope ["maze", "value", "cell", "at"] ["maze", "value"] (defScope (top 20)) := ⟨rfl, rfl, rfl, by decide +kernel, rfl, by decide +kernel, by decide +kernel⟩
theorem ok_are_cells (T : Facts w K mg) : FnP P w K mg base 4 (He.ga K "are_cells") ["maze", "value"] (spF K F_are_cells) := by
  obtain ⟨⟨fd_is_open, G_is_open, b_is_open, _⟩, kp_is_open⟩ := ok_is_open T (P := P) (base := base)
  refine T.d_are_cells.f S_are_cells fun cdv A outer s H E hr => ?_
  have tk := L2.takes_of (X := cxOf (L2.CX P w) P w K mg base ["maze", "value", "cell", "at"] "are_cells" (defScope (top 20)) (He.ga K "are_cells") cdv A outer s H E) rfl rfl rfl rfl
  have hx := fun σ => L2.passAt tk σ
  have own := L2.passes_of (X := cxOf (L2.CX P w) P w K mg base ["maze", "value", "cell", "at"] "are_cells" (defScope (top 20)) (He.ga K "are_cells") cdv A outer s H E) rfl
  exact (ss_cons (ss_if (ew_or (et_not (et_val (ef_bi call_isi c_isi T.b_isinstance (ec_cons ((ef_var 1)).b (ec_cons ((ef_bty T.b_tuple)).b ec_nil))))) (ew_or1 (et_not (et_val (ef_bi (cr_all rfl) c_all T.b_all (ec_cons ((en_lc rfl S_are_cells.nd (ei_any (ef_var 1)) (blkOk_by (own := [("cell", 2)]) (by kernel_rfl)) (tg_name 2) (fun _ _ _ _ _ => (pg_name (i := 2) S_are_cells.nd rfl (by first | exact Or.inl rfl | exact Or.inr rfl))) (fun _ _ _ _ _ => ets_nil) (fun _ _ _ _ _ => (ef_call G_is_open (hr.mono (by decide : 3 ≤ 3)) T.g_is_open kp_is_open b_is_open passB (ea_cons (ef_var 0) (ea_cons (ef_var 2) ea_nil)))))).b ec_nil)))))).t (ss_one (ss_ret ef_bl)) ss_nil)
    (ss_one (ss_ret (ef_bi (cr_all rfl) c_all T.b_all (ec_cons ((en_lc rfl S_are_cells.nd (ei_range1 T.b_range (ea_cons (ef_op op_sub o_sub ((ef_bi call_lenX c_lenX T.b_len (ec_cons ((ef_var 1)).b ec_nil))).b (ef_int).b) ea_nil)) (blkOk_by (own := [("at", 3)]) (by kernel_rfl)) (tg_name 3) (fun _ _ _ _ _ => (pg_name (i := 3) S_are_cells.nd rfl (by first | exact Or.inl rfl | exact Or.inr rfl))) (fun _ _ _ _ _ => ets_nil) (fun _ _ _ _ _ => (ef_cmp (op_ltX (un65 hr)) o_ltX ((ef_ix (ix_any (un65 hr)) o_ixX ((ef_var 1)).b ((ef_var 3)).b)).b ((ef_ix (ix_any (un65 hr)) o_ixX ((ef_var 1)).b ((ef_op op_addA o_add ((ef_var 3)).b (ef_int).b)).b)).b rfl)))).b ec_nil)))))
theorem S_Yard : FnScope ["self", "maze", "goals"] ["self", "maze", "goals"] (defScope (inClass (top 21) 0)) := ⟨rfl, rfl, rfl, by decide +kernel, rfl, by decide +kernel, by decide +kernel⟩
theorem ok_Yard (T : Facts w K mg) : FnP P w K mg base 5 (He.ma K (He.ga K "Yard") "__init__") ["self", "maze", "goals"] (spI K "Yard" I_Yard) := by
  obtain ⟨⟨fd_are_cells, G_are_cells, b_are_cells, _⟩, kp_are_cells⟩ := ok_are_cells T (P := P) (base := base)
  refine T.d_Yard.i S_Yard (n := 2) rfl fun cdv A outer s H E hr => ?_
  have tk := L2.takes_of (X := cxOf (L2.CX P w) P w K mg base ["self", "maze", "goals"] "Yard.__init__" (defScope (inClass (top 21) 0)) (He.ma K (He.ga K "Yard") "__init__") cdv A outer s H E) rfl rfl rfl rfl
  have hx := fun σ => L2.passAt tk σ
  have own := L2.passes_of (X := cxOf (L2.CX P w) P w K mg base ["self", "maze", "goals"] "Yard.__init__" (defScope (inClass (top 21) 0)) (He.ma K (He.ga K "Yard") "__init__") cdv A outer s H E) rfl
  exact (ss_cons (ss_if (ew_or (et_not (et_val (ef_call G_are_cells (hr.mono (by decide : 4 ≤ 4)) T.g_are_cells kp_are_cells b_are_cells hx (ea_cons (ef_var 1) (ea_cons (ef_var 2) ea_nil))))) (ew_or1 (et_not (et_chain (op_leX (un65 hr)) (op_leX (un65 hr)) o_leX o_leX (ef_int).b ((ef_bi call_lenX c_lenX T.b_len (ec_cons ((ef_var 2)).b ec_nil))).b ((ef_gint T.i_MOST_GOALS)).b)))).t (ss_one (ss_raiseE rfl tk T.ra_BadYard.ra)) ss_nil)
    (ss_cons (ss_fld 0 T.fld_Yard_maze (ef_var 1))
    (ss_one (ss_fld 0 T.fld_Yard_goals (ef_var 2)))))
theorem S_is_state : FnScope ["yard", "value"] ["yard", "value"] (defScope (top 22)) := ⟨rfl, rfl, rfl, by decide +kernel, rfl, by decide +kernel, by decide +kernel⟩
theorem ok_is_state (T : Facts w K mg) : FnP P w K mg base 5 (He.ga K "is_state") ["yard", "value"] (spF K F_is_state) := by
  obtain ⟨⟨fd_are_cells, G_are_cells, b_are_cells, _⟩, kp_are_cells⟩ := ok_are_cells T (P := P) (base := base)
  obtain ⟨⟨fd_is_open, G_is_open, b_is_open, _⟩, kp_is_open⟩ := ok_is_open T (P := P) (base := base)
  refine T.d_is_state.f S_is_state fun cdv A outer s H E hr => ?_
  have tk := L2.takes_of (X := cxOf (L2.CX P w) P w K mg base ["yard", "value"] "is_state" (defScope (top 22)) (He.ga K "is_state") cdv A outer s H E) rfl rfl rfl rfl
  have hx := fun σ => L2.passAt tk σ
  have own := L2.passes_of (X := cxOf (L2.CX P w) P w K mg base ["yard", "value"] "is_state" (defScope (top 22)) (He.ga K "is_state") cdv A outer s H E) rfl
  exact (ss_cons (ss_if (ew_or (et_not (et_val (ef_bi call_isi c_isi T.b_isinstance (ec_cons ((ef_var 1)).b (ec_cons ((ef_bty T.b_tuple)).b ec_nil))))) (ew_or (et_cmp (op_neA hr.units) o_ne ((ef_bi call_lenX c_lenX T.b_len (ec_cons ((ef_var 1)).b ec_nil))).b (ef_int).b rfl) (ew_or1 (et_not (et_val (ef_call G_is_open (hr.mono (by decide : 3 ≤ 4)) T.g_is_open kp_is_open b_is_open hx (ea_cons (ef_fld (cons_of T.fld_Yard_maze none_of) ((ef_var 0)).b) (ea_cons (ef_ix (ix_any (un65 hr)) o_ixX ((ef_var 1)).b (ef_int).b) ea_nil)))))))).t (ss_one (ss_ret ef_bl)) ss_nil)
    (ss_one (ss_ret (ef_and (ef_call G_are_cells (hr.mono (by decide : 4 ≤ 4)) T.g_are_cells kp_are_cells b_are_cells hx (ea_cons (ef_fld (cons_of T.fld_Yard_maze none_of) ((ef_var 0)).b) (ea_cons (ef_ix (ix_any (un65 hr)) o_ixX ((ef_var 1)).b (ef_int).b) ea_nil))) (ef_and (ef_cmp (op_eqA hr.units) o_eq ((ef_bi call_lenX c_lenX T.b_len (ec_cons ((ef_ix (ix_any (un65 hr)) o_ixX ((ef_var 1)).b (ef_int).b)).b ec_nil))).b ((ef_bi call_lenX c_lenX T.b_len (ec_cons ((ef_fld (cons_of T.fld_Yard_goals none_of) ((ef_var 0)).b)).b ec_nil))).b rfl) (ef_one (ef_cmp (op_notInX (un65 hr)) o_notInX ((ef_ix (ix_any (un65 hr)) o_ixX ((ef_var 1)).b (ef_int).b)).b ((ef_ix (ix_any (un65 hr)) o_ixX ((ef_var 1)).b (ef_int).b)).b rfl)))))))
theorem S_check_state : FnScope ["yard", "state"] ["yard", "state"] (defScope (top 23)) := ⟨rfl, rfl, rfl, by decide +kernel, rfl, by decide +kernel, by decide +kernel⟩
theorem ok_check_state (T : Facts w K mg) : FnP P w K mg base 6 (He.ga K "check_state") ["yard", "state"] (spF K F_check_state) := by
  obtain ⟨⟨fd_is_state, G_is_state, b_is_state, _⟩, kp_is_state⟩ := ok_is_state T (P := P) (base := base)
  refine T.d_check_state.f S_check_state fun cdv A outer s H E hr => ?_
  have tk := L2.takes_of (X := cxOf (L2.CX P w) P w K mg base ["yard", "state"] "check_state" (defScope (top 23)) (He.ga K "check_state") cdv A outer s H E) rfl rfl rfl rfl
  have hx := fun σ => L2.passAt tk σ
  have own := L2.passes_of (X := cxOf (L2.CX P w) P w K mg base ["yard", "state"] "check_state" (defScope (top 23)) (He.ga K "check_state") cdv A outer s H E) rfl
  exact (ss_one (ss_if (et_not (et_val (ef_call G_is_state (hr.mono (by decide : 5 ≤ 5)) T.g_is_state kp_is_state b_is_state hx (ea_cons (ef_var 0) (ea_cons (ef_var 1) ea_nil))))) (ss_one (ss_raiseE rfl tk T.ra_BadState.ra)) ss_nil))
theorem S_ahead : FnScope ["cell", "heading"] ["cell", "heading"] (defScope (top 24)) := ⟨rfl, rfl, rfl, by decide +kernel, rfl, by decide +kernel, by decide +kernel⟩
theorem ok_ahead (T : Facts w K mg) : FnP P w K mg base 1 (He.ga K "ahead") ["cell", "heading"] (spF K F_ahead) := by
  refine T.d_ahead.f S_ahead fun cdv A outer s H E hr => ?_
  have tk := L2.takes_of (X := cxOf (L2.CX P w) P w K mg base ["cell", "heading"] "ahead" (defScope (top 24)) (He.ga K "ahead") cdv A outer s H E) rfl rfl rfl rfl
  have hx := fun σ => L2.passAt tk σ
  have own := L2.passes_of (X := cxOf (L2.CX P w) P w K mg base ["cell", "heading"] "ahead" (defScope (top 24)) (He.ga K "ahead") cdv A outer s H E) rfl
  exact (ss_one (ss_ret (ef_tup (ea_cons (ef_op op_addA o_add ((ef_ix (ix_any (un65 hr)) o_ixX ((ef_var 0)).b (ef_int).b)).b ((ef_ix (ix_any (un65 hr)) o_ixX ((ef_ix (ix_any (un65 hr)) o_ixX ((ef_gtup T.ct_GOES T.g_GOES)).b ((ef_var 1)).b)).b (ef_int).b)).b) (ea_cons (ef_op op_addA o_add ((ef_ix (ix_any (un65 hr)) o_ixX ((ef_var 0)).b (ef_int).b)).b ((ef_ix (ix_any (un65 hr)) o_ixX ((ef_ix (ix_any (un65 hr)) o_ixX ((ef_gtup T.ct_GOES T.g_GOES)).b ((ef_var 1)).b)).b (ef_int).b)).b) ea_nil)))))
theorem S_reach : FnScope ["yard", "state", "found", "waits", "cell"] ["yard", "state"] (defScope (top 25)) := ⟨rfl, rfl, rfl, by decide +kernel, rfl, by decide +kernel, by decide +kernel⟩
theorem ok_reach (T : Facts w K mg) : FnP P w K mg base 5 (He.ga K "reach") ["yard", "state"] (spF K F_reach) := by
  obtain ⟨⟨fd_beside, G_beside, b_beside, _⟩, kp_beside⟩ := ok_beside T (P := P) (base := base)
  refine T.d_reach.f S_reach fun cdv A outer s H E hr => ?_
  have tk := L2.takes_of (X := cxOf (L2.CX P w) P w K mg base ["yard", "state", "found", "waits", "cell"] "reach" (defScope (top 25)) (He.ga K "reach") cdv A outer s H E) rfl rfl rfl rfl
  have hx := fun σ => L2.passAt tk σ
  have own := L2.passes_of (X := cxOf (L2.CX P w) P w K mg base ["yard", "state", "found", "waits", "cell"] "reach" (defScope (top 25)) (He.ga K "reach") cdv A outer s H E) rfl
  exact (ss_cons (ss_setO 2 (en_disp1 (un65 hr) (ef_ix (ix_any (un65 hr)) o_ixX ((ef_var 1)).b (ef_int).b) ef_bl) S_reach.nd)
    (ss_cons (ss_setO 3 (en_lst (ea_cons (ef_ix (ix_any (un65 hr)) o_ixX ((ef_var 1)).b (ef_int).b) ea_nil)) S_reach.nd)
    (ss_cons (ss_while 1000 own (et_cmp (op_gtX (un65 hr)) o_gtX ((ef_bi call_lenX c_lenX T.b_len (ec_cons (eb_var 3) ec_nil))).b (ef_int).b rfl) (ss_one (ss_forS (vs := [4]) own rfl (ei_pop2 3 G_beside (hr.mono (by decide : 4 ≤ 4)) T.g_beside kp_beside b_beside hx (ef_fld (cons_of T.fld_Yard_maze none_of) ((ef_var 0)).b)) (pg_name (i := 4) S_reach.nd rfl (by first | exact Or.inl rfl | exact Or.inr rfl)) (tg_name 4)
    (ss_one (ss_if (ew_and (et_cmp (op_notInX (un65 hr)) o_notInX ((ef_var 4)).b (eb_var 2) rfl) (ew_and1 (et_cmp (op_notInX (un65 hr)) o_notInX ((ef_var 4)).b ((ef_ix (ix_any (un65 hr)) o_ixX ((ef_var 1)).b (ef_int).b)).b rfl))).t (ss_cons (ss_put 2 (un65 hr) (ef_var 4) ef_bl)
    (ss_one (ss_app 3 (ef_var 4)))) ss_nil)))))
    (ss_one (ss_frz 2 (ss_ret (ef_var 2)))))))
theorem S_is_free : FnScope ["yard", "boxes", "cell"] ["yard", "boxes", "cell"] (defScope (top 26)) := ⟨rfl, rfl, rfl, by decide +kernel, rfl, by decide +kernel, by decide +kernel⟩
theorem ok_is_free (T : Facts w K mg) : FnP P w K mg base 4 (He.ga K "is_free") ["yard", "boxes", "cell"] (spF K F_is_free) := by
  obtain ⟨⟨fd_is_open, G_is_open, b_is_open, _⟩, kp_is_open⟩ := ok_is_open T (P := P) (base := base)
  refine T.d_is_free.f S_is_free fun cdv A outer s H E hr => ?_
  have tk := L2.takes_of (X := cxOf (L2.CX P w) P w K mg base ["yard", "boxes", "cell"] "is_free" (defScope (top 26)) (He.ga K "is_free") cdv A outer s H E) rfl rfl rfl rfl
  have hx := fun σ => L2.passAt tk σ
  have own := L2.passes_of (X := cxOf (L2.CX P w) P w K mg base ["yard", "boxes", "cell"] "is_free" (defScope (top 26)) (He.ga K "is_free") cdv A outer s H E) rfl
  exact (ss_one (ss_ret (ef_and (ef_call G_is_open (hr.mono (by decide : 3 ≤ 3)) T.g_is_open kp_is_open b_is_open hx (ea_cons (ef_fld (cons_of T.fld_Yard_maze none_of) ((ef_var 0)).b) (ea_cons (ef_var 2) ea_nil))) (ef_one (ef_cmp (op_notInX (un65 hr)) o_notInX ((ef_var 2)).b ((ef_var 1)).b rfl)))))
theorem S_all_pushes : FnScope ["yard", "state", "there", "found", "box", "heading"] ["yard", "state"] (defScope (top 27)) := ⟨rfl, rfl, rfl, by decide +kernel, rfl, by decide +kernel, by decide +kernel⟩
theorem ok_all_pushes (T : Facts w K mg) : FnP P w K mg base 6 (He.ga K "all_pushes") ["yard", "state"] (spF K F_all_pushes) := by
  obtain ⟨⟨fd_ahead, G_ahead, b_ahead, _⟩, kp_ahead⟩ := ok_ahead T (P := P) (base := base)
  obtain ⟨⟨fd_is_free, G_is_free, b_is_free, _⟩, kp_is_free⟩ := ok_is_free T (P := P) (base := base)
  obtain ⟨⟨fd_reach, G_reach, b_reach, _⟩, kp_reach⟩ := ok_reach T (P := P) (base := base)
  refine T.d_all_pushes.f S_all_pushes fun cdv A outer s H E hr => ?_
  have tk := L2.takes_of (X := cxOf (L2.CX P w) P w K mg base ["yard", "state", "there", "found", "box", "heading"] "all_pushes" (defScope (top 27)) (He.ga K "all_pushes") cdv A outer s H E) rfl rfl rfl rfl
  have hx := fun σ => L2.passAt tk σ
  have own := L2.passes_of (X := cxOf (L2.CX P w) P w K mg base ["yard", "state", "there", "found", "box", "heading"] "all_pushes" (defScope (top 27)) (He.ga K "all_pushes") cdv A outer s H E) rfl
  exact (ss_cons (ss_set 2 (ef_call G_reach (hr.mono (by decide : 5 ≤ 5)) T.g_reach kp_reach b_reach hx (ea_cons (ef_var 0) (ea_cons (ef_var 1) ea_nil))) S_all_pushes.nd)
    (ss_cons (ss_setO 3 (en_lst ea_nil) S_all_pushes.nd)
    (ss_cons (ss_for (vs := [4]) own rfl (ei_any (ef_ix (ix_any (un65 hr)) o_ixX ((ef_var 1)).b (ef_int).b)) (pg_name (i := 4) S_all_pushes.nd rfl (by first | exact Or.inl rfl | exact Or.inr rfl)) (tg_name 4)
    (ss_one (ss_for (vs := [5]) own rfl (ei_range1 T.b_range (ea_cons ef_int ea_nil)) (pg_name (i := 5) S_all_pushes.nd rfl (by first | exact Or.inl rfl | exact Or.inr rfl)) (tg_name 5)
    (ss_one (ss_if (ew_and (et_val (ef_call G_is_free (hr.mono (by decide : 4 ≤ 5)) T.g_is_free kp_is_free b_is_free hx (ea_cons (ef_var 0) (ea_cons (ef_ix (ix_any (un65 hr)) o_ixX ((ef_var 1)).b (ef_int).b) (ea_cons (ef_call G_ahead (hr.mono (by decide : 1 ≤ 5)) T.g_ahead kp_ahead b_ahead hx (ea_cons (ef_var 4) (ea_cons (ef_var 5) ea_nil))) ea_nil))))) (ew_and1 (et_cmp (op_inX (un65 hr)) o_inX ((ef_call G_ahead (hr.mono (by decide : 1 ≤ 5)) T.g_ahead kp_ahead b_ahead hx (ea_cons (ef_var 4) (ea_cons (ef_op op_mod o_mod ((ef_op op_addA o_add ((ef_var 5)).b (ef_int).b)).b (ef_int).b) ea_nil)))).b ((ef_var 2)).b rfl))).t (ss_one (ss_app 3 (ef_tup (ea_cons (ef_var 4) (ea_cons (ef_var 5) ea_nil))))) ss_nil)))))
    (ss_one (ss_frz 3 (ss_ret (ef_var 3)))))))
theorem S_moved : FnScope ["state", "push", "box", "heading", "boxes", "cell"] ["state", "push"] (defScope (top 28)) := ⟨rfl, rfl, rfl, by decide +kernel, rfl, by decide +kernel, by decide +kernel⟩
theorem ok_moved (T : Facts w K mg) : FnP P w K mg base 2 (He.ga K "moved") ["state", "push"] (spF K F_moved) := by
  obtain ⟨⟨fd_ahead, G_ahead, b_ahead, _⟩, kp_ahead⟩ := ok_ahead T (P := P) (base := base)
  refine T.d_moved.f S_moved fun cdv A outer s H E hr => ?_
  have tk := L2.takes_of (X := cxOf (L2.CX P w) P w K mg base ["state", "push", "box", "heading", "boxes", "cell"] "moved" (defScope (top 28)) (He.ga K "moved") cdv A outer s H E) rfl rfl rfl rfl
  have hx := fun σ => L2.passAt tk σ
  have own := L2.passes_of (X := cxOf (L2.CX P w) P w K mg base ["state", "push", "box", "heading", "boxes", "cell"] "moved" (defScope (top 28)) (He.ga K "moved") cdv A outer s H E) rfl
  exact (ss_cons (ss_asg (vs := [2, 3]) (ef_var 1) (pg_tup rfl (pgs_cons (pg_name (i := 2) S_moved.nd rfl (by first | exact Or.inl rfl | exact Or.inr rfl)) (pgs_cons (pg_name (i := 3) S_moved.nd rfl (by first | exact Or.inl rfl | exact Or.inr rfl)) pgs_nil))) (tg_tup (tgs_cons (tg_name 2) (tgs_cons (tg_name 3) tgs_nil))))
    (ss_cons (ss_set 4 (ef_op op_addA o_add ((en_lc rfl S_moved.nd (ei_any (ef_ix (ix_any (un65 hr)) o_ixX ((ef_var 0)).b (ef_int).b)) (blkOk_by (own := [("cell", 5)]) (by kernel_rfl)) (tg_name 5) (fun _ _ _ _ _ => (pg_name (i := 5) S_moved.nd rfl (by first | exact Or.inl rfl | exact Or.inr rfl))) (fun _ _ _ _ _ => (ets_one (et_cmp (op_neA hr.units) o_ne ((ef_var 5)).b ((ef_var 2)).b rfl))) (fun _ _ _ _ _ => (ef_var 5)))).b ((en_lst (ea_cons (ef_call G_ahead (hr.mono (by decide : 1 ≤ 1)) T.g_ahead kp_ahead b_ahead hx (ea_cons (ef_var 2) (ea_cons (ef_var 3) ea_nil))) ea_nil))).b) S_moved.nd)
    (ss_one (ss_ret (ef_tup (ea_cons (ef_var 2) (ea_cons (ef_bt call_tuple_of c_tuple T.b_tuple (ec_cons ((en_bi (cr_sortedX rfl (un65 hr)) c_sortedX T.b_sorted (ec_cons ((ef_var 4)).b ec_nil))).b ec_nil)) ea_nil)))))))
theorem S_sat : FnScope ["yard", "state"] ["yard", "state"] (defScope (top 29)) := ⟨rfl, rfl, rfl, by decide +kernel, rfl, by decide +kernel, by decide +kernel⟩
theorem ok_sat (T : Facts w K mg) : FnP P w K mg base 6 (He.ga K "sat") ["yard", "state"] (spF K F_sat) := by
  obtain ⟨⟨fd_reach, G_reach, b_reach, _⟩, kp_reach⟩ := ok_reach T (P := P) (base := base)
  refine T.d_sat.f S_sat fun cdv A outer s H E hr => ?_
  have tk := L2.takes_of (X := cxOf (L2.CX P w) P w K mg base ["yard", "state"] "sat" (defScope (top 29)) (He.ga K "sat") cdv A outer s H E) rfl rfl rfl rfl
  have hx := fun σ => L2.passAt tk σ
  have own := L2.passes_of (X := cxOf (L2.CX P w) P w K mg base ["yard", "state"] "sat" (defScope (top 29)) (He.ga K "sat") cdv A outer s H E) rfl
  exact (ss_one (ss_ret (ef_tup (ea_cons (ef_bi (call_minDct rfl (un65 hr)) c_minD T.b_min (ec_cons ((ef_call G_reach (hr.mono (by decide : 5 ≤ 5)) T.g_reach kp_reach b_reach hx (ea_cons (ef_var 0) (ea_cons (ef_var 1) ea_nil)))).b ec_nil)) (ea_cons (ef_ix (ix_any (un65 hr)) o_ixX ((ef_var 1)).b (ef_int).b) ea_nil)))))
theorem S__steps : FnScope ["yard", "box", "found", "heading", "there"] ["yard", "box"] (defScope (top 31)) := ⟨rfl, rfl, rfl, by decide +kernel, rfl, by decide +kernel, by decide +kernel⟩
theorem ok__steps (T : Facts w K mg) : FnP P w K mg base 4 (He.ga K "_steps") ["yard", "box"] (spF K F__steps) := by
  obtain ⟨⟨fd_ahead, G_ahead, b_ahead, _⟩, kp_ahead⟩ := ok_ahead T (P := P) (base := base)
  obtain ⟨⟨fd_is_open, G_is_open, b_is_open, _⟩, kp_is_open⟩ := ok_is_open T (P := P) (base := base)
  refine T.d__steps.f S__steps fun cdv A outer s H E hr => ?_
  have tk := L2.takes_of (X := cxOf (L2.CX P w) P w K mg base ["yard", "box", "found", "heading", "there"] "_steps" (defScope (top 31)) (He.ga K "_steps") cdv A outer s H E) rfl rfl rfl rfl
  have hx := fun σ => L2.passAt tk σ
  have own := L2.passes_of (X := cxOf (L2.CX P w) P w K mg base ["yard", "box", "found", "heading", "there"] "_steps" (defScope (top 31)) (He.ga K "_steps") cdv A outer s H E) rfl
  exact (ss_cons (ss_setO 2 (en_lst ea_nil) S__steps.nd)
    (ss_cons (ss_for (vs := [3]) own rfl (ei_range1 T.b_range (ea_cons ef_int ea_nil)) (pg_name (i := 3) S__steps.nd rfl (by first | exact Or.inl rfl | exact Or.inr rfl)) (tg_name 3)
    (ss_cons (ss_set 4 (ef_call G_ahead (hr.mono (by decide : 1 ≤ 3)) T.g_ahead kp_ahead b_ahead hx (ea_cons (ef_var 1) (ea_cons (ef_var 3) ea_nil))) S__steps.nd)
    (ss_one (ss_if (ew_and (et_val (ef_call G_is_open (hr.mono (by decide : 3 ≤ 3)) T.g_is_open kp_is_open b_is_open hx (ea_cons (ef_fld (cons_of T.fld_Yard_maze none_of) ((ef_var 0)).b) (ea_cons (ef_var 4) ea_nil)))) (ew_and1 (et_val (ef_call G_is_open (hr.mono (by decide : 3 ≤ 3)) T.g_is_open kp_is_open b_is_open hx (ea_cons (ef_fld (cons_of T.fld_Yard_maze none_of) ((ef_var 0)).b) (ea_cons (ef_call G_ahead (hr.mono (by decide : 1 ≤ 3)) T.g_ahead kp_ahead b_ahead hx (ea_cons (ef_var 1) (ea_cons (ef_op op_mod o_mod ((ef_op op_addA o_add ((ef_var 3)).b (ef_int).b)).b (ef_int).b) ea_nil))) ea_nil)))))).t (ss_one (ss_app 2 (ef_var 4))) ss_nil))))
    (ss_one (ss_frz 2 (ss_ret (ef_var 2))))))
theorem S_dead_cells : FnScope ["yard", "every", "led", "grown", "more", "box", "goal", "there"] ["yard"] (defScope (top 32)) := ⟨rfl, rfl, rfl, by decide +kernel, rfl, by decide +kernel, by decide +kernel⟩
theorem ok_dead_cells (T : Facts w K mg) : FnP P w K mg base 5 (He.ga K "dead_cells") ["yard"] (spF K F_dead_cells) := by
  obtain ⟨⟨fd__steps, G__steps, b__steps, _⟩, kp__steps⟩ := ok__steps T (P := P) (base := base)
  obtain ⟨⟨fd_cells, G_cells, b_cells, _⟩, kp_cells⟩ := ok_cells T (P := P) (base := base)
  refine T.d_dead_cells.f S_dead_cells fun cdv A outer s H E hr => ?_
  have tk := L2.takes_of (X := cxOf (L2.CX P w) P w K mg base ["yard", "every", "led", "grown", "more", "box", "goal", "there"] "dead_cells" (defScope (top 32)) (He.ga K "dead_cells") cdv A outer s H E) rfl rfl rfl rfl
  have hx := fun σ => L2.passAt tk σ
  have own := L2.passes_of (X := cxOf (L2.CX P w) P w K mg base ["yard", "every", "led", "grown", "more", "box", "goal", "there"] "dead_cells" (defScope (top 32)) (He.ga K "dead_cells") cdv A outer s H E) rfl
  exact (ss_cons (ss_set 1 (ef_call G_cells (hr.mono (by decide : 1 ≤ 4)) T.g_cells kp_cells b_cells hx (ea_cons (ef_fld (cons_of T.fld_Yard_maze none_of) ((ef_var 0)).b) ea_nil)) S_dead_cells.nd)
    (ss_cons (ss_setO 2 (en_dc (un65 hr) rfl S_dead_cells.nd (ei_any (ef_fld (cons_of T.fld_Yard_goals none_of) ((ef_var 0)).b)) (blkOk_by (own := [("goal", 6)]) (by kernel_rfl)) (tg_name 6) (fun _ _ _ _ _ => (pg_name (i := 6) S_dead_cells.nd rfl (by first | exact Or.inl rfl | exact Or.inr rfl))) (fun _ _ _ _ _ => ets_nil) (fun _ _ _ _ _ => (ef_var 6)) (fun _ _ _ _ _ => ef_bl)) S_dead_cells.nd)
    (ss_cons (ss_set 3 ef_bl S_dead_cells.nd)
    (ss_cons (ss_while 1000 own (et_val (ef_var 3)) (ss_cons (ss_setLc 4 rfl S_dead_cells.nd rfl (sw_true rfl rfl rfl (by decide +kernel)) (ei_any (ef_var 1)) (blkOk_by (own := [("box", 5)]) (by kernel_rfl)) (tg_name 5) (fun _ _ _ _ _ => (pg_name (i := 5) S_dead_cells.nd rfl (by first | exact Or.inl rfl | exact Or.inr rfl))) (fun _ _ _ _ _ => (ets_one (ew_and (et_cmp (op_notInX (un65 hr)) o_notInX ((ef_var 5)).b (eb_var 2) rfl) (ew_and1 (et_val (ef_bi (cr_any rfl) c_any T.b_any (ec_cons ((en_lc rfl S_dead_cells.nd (ei_any (ef_call G__steps (hr.mono (by decide : 4 ≤ 4)) T.g__steps kp__steps b__steps passB (ea_cons (ef_var 0) (ea_cons (ef_var 5) ea_nil)))) (blkOk_by (own := [("there", 7)]) (by kernel_rfl)) (tg_name 7) (fun _ _ _ _ _ => (pg_name (i := 7) S_dead_cells.nd rfl (by first | exact Or.inl rfl | exact Or.inr rfl))) (fun _ _ _ _ _ => ets_nil) (fun _ _ _ _ _ => (ef_cmp (op_inX (un65 hr)) o_inX ((ef_var 7)).b (eb_var 2) rfl)))).b ec_nil))))).t)) (fun _ _ _ _ _ => (ef_var 5)))
    (ss_cons (ss_for (vs := [5]) own rfl (ei_any (ef_var 4)) (pg_name (i := 5) S_dead_cells.nd rfl (by first | exact Or.inl rfl | exact Or.inr rfl)) (tg_name 5)
    (ss_one (ss_put 2 (un65 hr) (ef_var 5) ef_bl)))
    (ss_one (ss_set 3 (ef_cmp (op_gtX (un65 hr)) o_gtX ((ef_bi call_lenX c_lenX T.b_len (ec_cons ((ef_var 4)).b ec_nil))).b (ef_int).b rfl) S_dead_cells.nd)))))
    (ss_one (ss_ret (ef_bt call_tuple_of c_tuple T.b_tuple (ec_cons ((en_lc rfl S_dead_cells.nd (ei_any (ef_var 1)) (blkOk_by (own := [("box", 5)]) (by kernel_rfl)) (tg_name 5) (fun _ _ _ _ _ => (pg_name (i := 5) S_dead_cells.nd rfl (by first | exact Or.inl rfl | exact Or.inr rfl))) (fun _ _ _ _ _ => (ets_one (et_cmp (op_notInX (un65 hr)) o_notInX ((ef_var 5)).b (eb_var 2) rfl))) (fun _ _ _ _ _ => (ef_var 5)))).b ec_nil))))))))
theorem S_dead_fault : FnScope ["yard", "value", "cell", "there"] ["yard", "value"] (defScope (top 33)) := ⟨rfl, rfl, rfl, by decide +kernel, rfl, by decide +kernel, by decide +kernel⟩
theorem ok_dead_fault (T : Facts w K mg) : FnP P w K mg base 5 (He.ga K "dead_fault") ["yard", "value"] (spF K F_dead_fault) := by
  obtain ⟨⟨fd__steps, G__steps, b__steps, _⟩, kp__steps⟩ := ok__steps T (P := P) (base := base)
  obtain ⟨⟨fd_are_cells, G_are_cells, b_are_cells, _⟩, kp_are_cells⟩ := ok_are_cells T (P := P) (base := base)
  refine T.d_dead_fault.f S_dead_fault fun cdv A outer s H E hr => ?_
  have tk := L2.takes_of (X := cxOf (L2.CX P w) P w K mg base ["yard", "value", "cell", "there"] "dead_fault" (defScope (top 33)) (He.ga K "dead_fault") cdv A outer s H E) rfl rfl rfl rfl
  have hx := fun σ => L2.passAt tk σ
  have own := L2.passes_of (X := cxOf (L2.CX P w) P w K mg base ["yard", "value", "cell", "there"] "dead_fault" (defScope (top 33)) (He.ga K "dead_fault") cdv A outer s H E) rfl
  exact (ss_cons (ss_if (et_not (et_val (ef_call G_are_cells (hr.mono (by decide : 4 ≤ 4)) T.g_are_cells kp_are_cells b_are_cells hx (ea_cons (ef_fld (cons_of T.fld_Yard_maze none_of) ((ef_var 0)).b) (ea_cons (ef_var 1) ea_nil))))) (ss_one (ss_ret ef_str)) ss_nil)
    (ss_cons (ss_for (vs := [2]) own rfl (ei_any (ef_var 1)) (pg_name (i := 2) S_dead_fault.nd rfl (by first | exact Or.inl rfl | exact Or.inr rfl)) (tg_name 2)
    (ss_one (ss_if (et_cmp (op_inX (un65 hr)) o_inX ((ef_var 2)).b ((ef_fld (cons_of T.fld_Yard_goals none_of) ((ef_var 0)).b)).b rfl) (ss_one (ss_ret (ef_tup (ea_cons ef_str (ea_cons (ef_var 2) ea_nil))))) ss_nil)))
    (ss_cons (ss_for (vs := [2]) own rfl (ei_any (ef_var 1)) (pg_name (i := 2) S_dead_fault.nd rfl (by first | exact Or.inl rfl | exact Or.inr rfl)) (tg_name 2)
    (ss_one (ss_if (et_not (et_val (ef_bi (cr_all rfl) c_all T.b_all (ec_cons ((en_lc rfl S_dead_fault.nd (ei_any (ef_call G__steps (hr.mono (by decide : 4 ≤ 4)) T.g__steps kp__steps b__steps hx (ea_cons (ef_var 0) (ea_cons (ef_var 2) ea_nil)))) (blkOk_by (own := [("there", 3)]) (by kernel_rfl)) (tg_name 3) (fun _ _ _ _ _ => (pg_name (i := 3) S_dead_fault.nd rfl (by first | exact Or.inl rfl | exact Or.inr rfl))) (fun _ _ _ _ _ => ets_nil) (fun _ _ _ _ _ => (ef_cmp (op_inX (un65 hr)) o_inX ((ef_var 3)).b ((ef_var 1)).b rfl)))).b ec_nil)))) (ss_one (ss_ret (ef_tup (ea_cons ef_str (ea_cons (ef_var 2) ea_nil))))) ss_nil)))
    (ss_one (ss_ret ef_non)))))
theorem S__searched : FnScope ["yard", "state", "first", "levels", "came", "layer", "solved", "later", "one", "push", "other"] ["yard", "state"] (defScope (top 37)) := ⟨rfl, rfl, rfl, by decide +kernel, rfl, by decide +kernel, by decide +kernel⟩
theorem ok__searched (T : Facts w K mg) : FnP P w K mg base 7 (He.ga K "_searched") ["yard", "state"] (spF K F__searched) := by
  obtain ⟨⟨fd_all_pushes, G_all_pushes, b_all_pushes, _⟩, kp_all_pushes⟩ := ok_all_pushes T (P := P) (base := base)
  obtain ⟨⟨fd_moved, G_moved, b_moved, _⟩, kp_moved⟩ := ok_moved T (P := P) (base := base)
  obtain ⟨⟨fd_sat, G_sat, b_sat, _⟩, kp_sat⟩ := ok_sat T (P := P) (base := base)
  refine T.d__searched.f S__searched fun cdv A outer s H E hr => ?_
  have tk := L2.takes_of (X := cxOf (L2.CX P w) P w K mg base ["yard", "state", "first", "levels", "came", "layer", "solved", "later", "one", "push", "other"] "_searched" (defScope (top 37)) (He.ga K "_searched") cdv A outer s H E) rfl rfl rfl rfl
  have hx := fun σ => L2.passAt tk σ
  have own := L2.passes_of (X := cxOf (L2.CX P w) P w K mg base ["yard", "state", "first", "levels", "came", "layer", "solved", "later", "one", "push", "other"] "_searched" (defScope (top 37)) (He.ga K "_searched") cdv A outer s H E) rfl
  exact (ss_cons (ss_set 2 (ef_call G_sat (hr.mono (by decide : 6 ≤ 6)) T.g_sat kp_sat b_sat hx (ea_cons (ef_var 0) (ea_cons (ef_var 1) ea_nil))) S__searched.nd)
    (ss_cons (ss_setO 3 (en_disp1 (un65 hr) (ef_var 2) ef_int) S__searched.nd)
    (ss_cons (ss_setO 4 (en_disp1 (un65 hr) (ef_var 2) ef_non) S__searched.nd)
    (ss_cons (ss_set 5 ((en_lst (ea_cons (ef_var 2) ea_nil))).fz S__searched.nd)
    (ss_cons (ss_while 3000 own (et_cmp (op_gtX (un65 hr)) o_gtX ((ef_bi call_lenX c_lenX T.b_len (ec_cons ((ef_var 5)).b ec_nil))).b (ef_int).b rfl) (ss_cons (ss_set 6 ((en_bi (cr_sortedX rfl (un65 hr)) c_sortedX T.b_sorted (ec_cons ((en_lc rfl S__searched.nd (ei_any (ef_var 5)) (blkOk_by (own := [("one", 8)]) (by kernel_rfl)) (tg_name 8) (fun _ _ _ _ _ => (pg_name (i := 8) S__searched.nd rfl (by first | exact Or.inl rfl | exact Or.inr rfl))) (fun _ _ _ _ _ => (ets_one (et_cmp (op_eqA hr.units) o_eq ((ef_ix (ix_any (un65 hr)) o_ixX ((ef_var 8)).b (ef_int).b)).b ((ef_fld (cons_of T.fld_Yard_goals none_of) ((ef_var 0)).b)).b rfl))) (fun _ _ _ _ _ => (ef_var 8)))).b ec_nil))).fz S__searched.nd)
    (ss_cons (ss_if (et_cmp (op_gtX (un65 hr)) o_gtX ((ef_bi call_lenX c_lenX T.b_len (ec_cons ((ef_var 6)).b ec_nil))).b (ef_int).b rfl) (ss_one (ss_frz 4 (ss_frz 3 (ss_ret (ef_tup (ea_cons (ef_var 3) (ea_cons (ef_var 4) (ea_cons (ef_ix (ix_any (un65 hr)) o_ixX ((ef_var 6)).b (ef_int).b) ea_nil)))))))) ss_nil)
    (ss_cons (ss_setO 7 (en_lst ea_nil) S__searched.nd)
    (ss_cons (ss_for (vs := [8]) own rfl (ei_any (ef_var 5)) (pg_name (i := 8) S__searched.nd rfl (by first | exact Or.inl rfl | exact Or.inr rfl)) (tg_name 8)
    (ss_one (ss_for (vs := [9]) own rfl (ei_any (ef_call G_all_pushes (hr.mono (by decide : 6 ≤ 6)) T.g_all_pushes kp_all_pushes b_all_pushes hx (ea_cons (ef_var 0) (ea_cons (ef_var 8) ea_nil)))) (pg_name (i := 9) S__searched.nd rfl (by first | exact Or.inl rfl | exact Or.inr rfl)) (tg_name 9)
    (ss_cons (ss_set 10 (ef_call G_sat (hr.mono (by decide : 6 ≤ 6)) T.g_sat kp_sat b_sat hx (ea_cons (ef_var 0) (ea_cons (ef_call G_moved (hr.mono (by decide : 2 ≤ 6)) T.g_moved kp_moved b_moved hx (ea_cons (ef_var 8) (ea_cons (ef_var 9) ea_nil))) ea_nil))) S__searched.nd)
    (ss_one (ss_if (et_cmp (op_notInX (un65 hr)) o_notInX ((ef_var 10)).b (eb_var 3) rfl) (ss_cons (ss_put 3 (un65 hr) (ef_var 10) (ef_op op_addA o_add ((ef_ix (ix_any (un65 hr)) o_ixX (eb_var 3) ((ef_var 8)).b)).b (ef_int).b))
    (ss_cons (ss_put 4 (un65 hr) (ef_var 10) (ef_tup (ea_cons (ef_var 8) (ea_cons (ef_var 9) ea_nil))))
    (ss_one (ss_app 7 (ef_var 10))))) ss_nil))))))
    (ss_one (ss_frz 7 (ss_set 5 (ef_var 7) S__searched.nd))))))))
    (ss_one (ss_frz 4 (ss_frz 3 (ss_ret (ef_tup (ea_cons (ef_var 3) (ea_cons (ef_var 4) (ea_cons ef_non ea_nil)))))))))))))
theorem S_solving : FnScope ["yard", "state", "levels", "came", "end", "row", "here", "push"] ["yard", "state"] (defScope (top 38)) := ⟨rfl, rfl, rfl, by decide +kernel, rfl, by decide +kernel, by decide +kernel⟩
theorem ok_solving (T : Facts w K mg) : FnP P w K mg base 8 (He.ga K "solving") ["yard", "state"] (spF K F_solving) := by
  obtain ⟨⟨fd__searched, G__searched, b__searched, _⟩, kp__searched⟩ := ok__searched T (P := P) (base := base)
  obtain ⟨⟨fd_cells, G_cells, b_cells, _⟩, kp_cells⟩ := ok_cells T (P := P) (base := base)
  obtain ⟨⟨fd_check_state, G_check_state, b_check_state, _⟩, kp_check_state⟩ := ok_check_state T (P := P) (base := base)
  refine T.d_solving.f S_solving fun cdv A outer s H E hr => ?_
  have tk := L2.takes_of (X := cxOf (L2.CX P w) P w K mg base ["yard", "state", "levels", "came", "end", "row", "here", "push"] "solving" (defScope (top 38)) (He.ga K "solving") cdv A outer s H E) rfl rfl rfl rfl
  have hx := fun σ => L2.passAt tk σ
  have own := L2.passes_of (X := cxOf (L2.CX P w) P w K mg base ["yard", "state", "levels", "came", "end", "row", "here", "push"] "solving" (defScope (top 38)) (He.ga K "solving") cdv A outer s H E) rfl
  exact (ss_cons (ss_expr (ef_call G_check_state (hr.mono (by decide : 6 ≤ 7)) T.g_check_state kp_check_state b_check_state hx (ea_cons (ef_var 0) (ea_cons (ef_var 1) ea_nil))))
    (ss_cons (ss_if (ew_or (et_cmp (op_gtX (un65 hr)) o_gtX ((ef_bi call_lenX c_lenX T.b_len (ec_cons ((ef_call G_cells (hr.mono (by decide : 1 ≤ 7)) T.g_cells kp_cells b_cells hx (ea_cons (ef_fld (cons_of T.fld_Yard_maze none_of) ((ef_var 0)).b) ea_nil))).b ec_nil))).b ((ef_gint T.i_MOST_CELLS)).b rfl) (ew_or1 (et_cmp (op_gtX (un65 hr)) o_gtX ((ef_bi call_lenX c_lenX T.b_len (ec_cons ((ef_fld (cons_of T.fld_Yard_goals none_of) ((ef_var 0)).b)).b ec_nil))).b ((ef_gint T.i_MOST_BOXES)).b rfl))).t (ss_one (ss_raiseE rfl tk T.ra_TooMany.ra)) ss_nil)
    (ss_cons (ss_asg (vs := [2, 3, 4]) (ef_call G__searched (hr.mono (by decide : 7 ≤ 7)) T.g__searched kp__searched b__searched hx (ea_cons (ef_var 0) (ea_cons (ef_var 1) ea_nil))) (pg_tup rfl (pgs_cons (pg_name (i := 2) S_solving.nd rfl (by first | exact Or.inl rfl | exact Or.inr rfl)) (pgs_cons (pg_name (i := 3) S_solving.nd rfl (by first | exact Or.inl rfl | exact Or.inr rfl)) (pgs_cons (pg_name (i := 4) S_solving.nd rfl (by first | exact Or.inl rfl | exact Or.inr rfl)) pgs_nil)))) (tg_tup (tgs_cons (tg_name 2) (tgs_cons (tg_name 3) (tgs_cons (tg_name 4) tgs_nil)))))
    (ss_cons (ss_if (et_cmp op_isX o_isX ((ef_var 4)).b (ef_non).b rfl) (ss_one (ss_ret (ef_tup (ea_cons ef_str (ea_cons (ef_bt call_tuple_of c_tuple T.b_tuple (ec_cons ((en_bi (cr_sortedX rfl (un65 hr)) c_sortedX T.b_sorted (ec_cons ((ef_var 2)).b ec_nil))).b ec_nil)) ea_nil))))) ss_nil)
    (ss_cons ss_nev
    (ss_cons ss_nev
    (ss_cons ss_nev
    (ss_one ss_nev))))))))
theorem S__law_draws : FnScope ["script", "many", "draws", "seed", "cell", "number", "k"] ["script", "many"] (defScope (top 40)) := ⟨rfl, rfl, rfl, by decide +kernel, rfl, by decide +kernel, by decide +kernel⟩
theorem ok__law_draws (T : Facts w K mg) : FnP P w K mg base 1 (He.ga K "_law_draws") ["script", "many"] (spF K F__law_draws) := by
  refine T.d__law_draws.f S__law_draws fun cdv A outer s H E hr => ?_
  have tk := L2.takes_of (X := cxOf (L2.CX P w) P w K mg base ["script", "many", "draws", "seed", "cell", "number", "k"] "_law_draws" (defScope (top 40)) (He.ga K "_law_draws") cdv A outer s H E) rfl rfl rfl rfl
  have hx := fun σ => L2.passAt tk σ
  have own := L2.passes_of (X := cxOf (L2.CX P w) P w K mg base ["script", "many", "draws", "seed", "cell", "number", "k"] "_law_draws" (defScope (top 40)) (He.ga K "_law_draws") cdv A outer s H E) rfl
  exact (ss_cons (ss_setO 2 (en_lst ea_nil) S__law_draws.nd)
    (ss_cons (ss_set 3 ef_int S__law_draws.nd)
    (ss_cons (ss_for (vs := [4]) own rfl (ei_any (ef_sl sl_any s_any ((ef_var 0)).b eo_none (eo_some ef_int))) (pg_name (i := 4) S__law_draws.nd rfl (by first | exact Or.inl rfl | exact Or.inr rfl)) (tg_name 4)
    (ss_cons (ss_set 5 (ef_bi call_abs c_abs T.b_abs (ec_cons ((ef_var 4)).b ec_nil)) S__law_draws.nd)
    (ss_cons (ss_set 3 (ef_op op_mod o_mod ((ef_bt call_int1 c_int T.b_int (ec_cons ((ef_op op_addA o_add ((ef_op op_addA o_add ((ef_op op_mulX' o_mulX ((ef_var 3)).b (ef_int).b)).b ((ef_var 5)).b)).b (ef_int).b)).b ec_nil))).b (ef_int).b) S__law_draws.nd)
    (ss_one (ss_if (et_cmp (op_geX (un65 hr)) o_geX ((ef_var 5)).b ((ef_op op_pow o_pow (ef_int).b (ef_int).b)).b rfl) (ss_one (ss_for (vs := [6]) own rfl (ei_range1 T.b_range (ea_cons ef_int ea_nil)) (pg_name (i := 6) S__law_draws.nd rfl (by first | exact Or.inl rfl | exact Or.inr rfl)) (tg_name 6)
    (ss_one (ss_if (et_cmp (op_gtX (un65 hr)) o_gtX ((ef_var 5)).b (ef_int).b rfl) (ss_cons (ss_app 2 (ef_op op_mod o_mod ((ef_bt call_int1 c_int T.b_int (ec_cons ((ef_var 5)).b ec_nil))).b (ef_int).b))
    (ss_one (ss_set 5 (ef_op op_fdiv o_div ((ef_var 5)).b (ef_int).b) S__law_draws.nd))) ss_nil)))) (ss_one (ss_app 2 (ef_op op_mod o_mod ((ef_op op_fdiv o_div ((ef_bt call_int1 c_int T.b_int (ec_cons ((ef_op op_addA o_add ((ef_op op_mulX' o_mulX ((ef_var 3)).b (ef_int).b)).b (ef_int).b)).b ec_nil))).b (ef_int).b)).b (ef_int).b))))))))
    (ss_cons (ss_for (vs := [6]) own rfl (ei_range1 T.b_range (ea_cons (ef_var 1) ea_nil)) (pg_name (i := 6) S__law_draws.nd rfl (by first | exact Or.inl rfl | exact Or.inr rfl)) (tg_name 6)
    (ss_one (ss_if (et_cmp (op_ltX (un65 hr)) o_ltX ((ef_bi call_lenX c_lenX T.b_len (ec_cons (eb_var 2) ec_nil))).b ((ef_var 1)).b rfl) (ss_cons (ss_set 3 (ef_op op_mod o_mod ((ef_bt call_int1 c_int T.b_int (ec_cons ((ef_op op_addA o_add ((ef_op op_addA o_add ((ef_op op_mulX' o_mulX ((ef_var 3)).b (ef_int).b)).b ((ef_var 6)).b)).b (ef_int).b)).b ec_nil))).b (ef_int).b) S__law_draws.nd)
    (ss_one (ss_app 2 (ef_op op_mod o_mod ((ef_op op_fdiv o_div ((ef_bt call_int1 c_int T.b_int (ec_cons ((ef_var 3)).b ec_nil))).b (ef_int).b)).b (ef_int).b)))) ss_nil)))
    (ss_one (ss_ret (ef_sl sl_any s_any (eb_var 2) eo_none (eo_some (ef_var 1)))))))))
theorem S__law_cells : FnScope ["rows", "found", "row", "column"] ["rows"] (defScope (top 42)) := ⟨rfl, rfl, rfl, by decide +kernel, rfl, by decide +kernel, by decide +kernel⟩
theorem ok__law_cells (T : Facts w K mg) : FnP P w K mg base 1 (He.ga K "_law_cells") ["rows"] (spF K F__law_cells) := by
  refine T.d__law_cells.f S__law_cells fun cdv A outer s H E hr => ?_
  have tk := L2.takes_of (X := cxOf (L2.CX P w) P w K mg base ["rows", "found", "row", "column"] "_law_cells" (defScope (top 42)) (He.ga K "_law_cells") cdv A outer s H E) rfl rfl rfl rfl
  have hx := fun σ => L2.passAt tk σ
  have own := L2.passes_of (X := cxOf (L2.CX P w) P w K mg base ["rows", "found", "row", "column"] "_law_cells" (defScope (top 42)) (He.ga K "_law_cells") cdv A outer s H E) rfl
  exact (ss_cons (ss_setO 1 (en_lst ea_nil) S__law_cells.nd)
    (ss_cons (ss_for (vs := [2]) own rfl (ei_range1 T.b_range (ea_cons (ef_bi call_lenX c_lenX T.b_len (ec_cons ((ef_var 0)).b ec_nil)) ea_nil)) (pg_name (i := 2) S__law_cells.nd rfl (by first | exact Or.inl rfl | exact Or.inr rfl)) (tg_name 2)
    (ss_one (ss_ext 1 (en_lc rfl S__law_cells.nd (ei_range1 T.b_range (ea_cons (ef_bi call_lenX c_lenX T.b_len (ec_cons ((ef_ix (ix_any (un65 hr)) o_ixX ((ef_var 0)).b (ef_int).b)).b ec_nil)) ea_nil)) (blkOk_by (own := [("column", 3)]) (by kernel_rfl)) (tg_name 3) (fun _ _ _ _ _ => (pg_name (i := 3) S__law_cells.nd rfl (by first | exact Or.inl rfl | exact Or.inr rfl))) (fun _ _ _ _ _ => (ets_one (et_cmp (op_eqA hr.units) o_eq ((ef_ix (ix_any (un65 hr)) o_ixX ((ef_ix (ix_any (un65 hr)) o_ixX ((ef_var 0)).b ((ef_var 2)).b)).b ((ef_var 3)).b)).b (ef_str).b rfl))) (fun _ _ _ _ _ => (ef_tup (ea_cons (ef_var 2) (ea_cons (ef_var 3) ea_nil))))))))
    (ss_one (ss_frz 1 (ss_ret (ef_var 1))))))
theorem S__law_beside : FnScope ["rows", "cell", "found", "down", "across", "row", "column"] ["rows", "cell"] (defScope (top 43)) := ⟨rfl, rfl, rfl, by decide +kernel, rfl, by decide +kernel, by decide +kernel⟩
theorem ok__law_beside (T : Facts w K mg) : FnP P w K mg base 1 (He.ga K "_law_beside") ["rows", "cell"] (spF K F__law_beside) := by
  refine T.d__law_beside.f S__law_beside fun cdv A outer s H E hr => ?_
  have tk := L2.takes_of (X := cxOf (L2.CX P w) P w K mg base ["rows", "cell", "found", "down", "across", "row", "column"] "_law_beside" (defScope (top 43)) (He.ga K "_law_beside") cdv A outer s H E) rfl rfl rfl rfl
  have hx := fun σ => L2.passAt tk σ
  have own := L2.passes_of (X := cxOf (L2.CX P w) P w K mg base ["rows", "cell", "found", "down", "across", "row", "column"] "_law_beside" (defScope (top 43)) (He.ga K "_law_beside") cdv A outer s H E) rfl
  exact (ss_cons (ss_setO 2 (en_lst ea_nil) S__law_beside.nd)
    (ss_cons (ss_for (vs := [3, 4]) own rfl (ei_any (ef_tup (ea_cons (ef_tup (ea_cons (ef_neg (ef_int).b) (ea_cons ef_int ea_nil))) (ea_cons (ef_tup (ea_cons ef_int (ea_cons (ef_neg (ef_int).b) ea_nil))) (ea_cons (ef_tup (ea_cons ef_int (ea_cons ef_int ea_nil))) (ea_cons (ef_tup (ea_cons ef_int (ea_cons ef_int ea_nil))) ea_nil)))))) (pg_tup rfl (pgs_cons (pg_name (i := 3) S__law_beside.nd rfl (by first | exact Or.inl rfl | exact Or.inr rfl)) (pgs_cons (pg_name (i := 4) S__law_beside.nd rfl (by first | exact Or.inl rfl | exact Or.inr rfl)) pgs_nil))) (tg_tup (tgs_cons (tg_name 3) (tgs_cons (tg_name 4) tgs_nil)))
    (ss_cons (ss_par 5 6 (ef_op op_addA o_add ((ef_ix (ix_any (un65 hr)) o_ixX ((ef_var 1)).b (ef_int).b)).b ((ef_var 3)).b) (ef_op op_addA o_add ((ef_ix (ix_any (un65 hr)) o_ixX ((ef_var 1)).b (ef_int).b)).b ((ef_var 4)).b) rfl S__law_beside.nd)
    (ss_one (ss_if (ew_and (et_chain (op_leX (un65 hr)) (op_ltX (un65 hr)) o_leX o_ltX (ef_int).b ((ef_var 5)).b ((ef_bi call_lenX c_lenX T.b_len (ec_cons ((ef_var 0)).b ec_nil))).b) (ew_and (et_chain (op_leX (un65 hr)) (op_ltX (un65 hr)) o_leX o_ltX (ef_int).b ((ef_var 6)).b ((ef_bi call_lenX c_lenX T.b_len (ec_cons ((ef_ix (ix_any (un65 hr)) o_ixX ((ef_var 0)).b (ef_int).b)).b ec_nil))).b) (ew_and1 (et_cmp (op_eqA hr.units) o_eq ((ef_ix (ix_any (un65 hr)) o_ixX ((ef_ix (ix_any (un65 hr)) o_ixX ((ef_var 0)).b ((ef_var 5)).b)).b ((ef_var 6)).b)).b (ef_str).b rfl)))).t (ss_one (ss_app 2 (ef_tup (ea_cons (ef_var 5) (ea_cons (ef_var 6) ea_nil))))) ss_nil))))
    (ss_one (ss_frz 2 (ss_ret (ef_var 2))))))
theorem S__law_yard : FnScope ["draws", "most", "many", "height", "width", "rows", "cells_v", "count", "order", "other", "row", "k", "pair"] ["draws", "most", "many"] (defScope (top 45)) := ⟨rfl, rfl, rfl, by decide +kernel, rfl, by decide +kernel, by decide +kernel⟩
theorem ok__law_yard (T : Facts w K mg) : FnP P w K mg base 2 (He.ga K "_law_yard") ["draws", "most", "many"] (spF K F__law_yard) := by
  obtain ⟨⟨fd__law_cells, G__law_cells, b__law_cells, _⟩, kp__law_cells⟩ := ok__law_cells T (P := P) (base := base)
  refine T.d__law_yard.f S__law_yard fun cdv A outer s H E hr => ?_
  have tk := L2.takes_of (X := cxOf (L2.CX P w) P w K mg base ["draws", "most", "many", "height", "width", "rows", "cells_v", "count", "order", "other", "row", "k", "pair"] "_law_yard" (defScope (top 45)) (He.ga K "_law_yard") cdv A outer s H E) rfl rfl rfl rfl
  have hx := fun σ => L2.passAt tk σ
  have own := L2.passes_of (X := cxOf (L2.CX P w) P w K mg base ["draws", "most", "many", "height", "width", "rows", "cells_v", "count", "order", "other", "row", "k", "pair"] "_law_yard" (defScope (top 45)) (He.ga K "_law_yard") cdv A outer s H E) rfl
  exact (ss_cons (ss_asg (vs := [3, 4]) (ef_tup (ea_cons (ef_op op_addA o_add (ef_int).b ((ef_op op_mod o_mod ((ef_bt call_int1 c_int T.b_int (ec_cons ((ef_ix (ix_any (un65 hr)) o_ixX ((ef_var 0)).b (ef_int).b)).b ec_nil))).b ((ef_op op_sub o_sub ((ef_var 1)).b (ef_int).b)).b)).b) (ea_cons (ef_op op_addA o_add (ef_int).b ((ef_op op_mod o_mod ((ef_bt call_int1 c_int T.b_int (ec_cons ((ef_ix (ix_any (un65 hr)) o_ixX ((ef_var 0)).b (ef_int).b)).b ec_nil))).b ((ef_op op_sub o_sub ((ef_var 1)).b (ef_int).b)).b)).b) ea_nil))) (pg_tup rfl (pgs_cons (pg_name (i := 3) S__law_yard.nd rfl (by first | exact Or.inl rfl | exact Or.inr rfl)) (pgs_cons (pg_name (i := 4) S__law_yard.nd rfl (by first | exact Or.inl rfl | exact Or.inr rfl)) pgs_nil))) (tg_tup (tgs_cons (tg_name 3) (tgs_cons (tg_name 4) tgs_nil))))
    (ss_cons (ss_set 5 (ef_bt call_tuple_of c_tuple T.b_tuple (ec_cons ((en_lc rfl S__law_yard.nd (ei_range1 T.b_range (ea_cons (ef_var 3) ea_nil)) (blkOk_by (own := [("row", 10)]) (by kernel_rfl)) (tg_name 10) (fun _ _ _ _ _ => (pg_name (i := 10) S__law_yard.nd rfl (by first | exact Or.inl rfl | exact Or.inr rfl))) (fun _ _ _ _ _ => ets_nil) (fun _ _ _ _ _ => (ef_m1 PySem.F.slot_str_join PySem.F.type_str_join mt_join m_join (ef_str).b ((en_lc rfl S__law_yard.nd (ei_range1 T.b_range (ea_cons (ef_var 4) ea_nil)) (blkOk_by (own := [("k", 11)]) (by kernel_rfl)) (tg_name 11) (fun _ _ _ _ _ => (pg_name (i := 11) S__law_yard.nd rfl (by first | exact Or.inl rfl | exact Or.inr rfl))) (fun _ _ _ _ _ => ets_nil) (fun _ _ _ _ _ => (ef_ix (ix_any (un65 hr)) o_ixX (ef_str).b ((ef_bt call_int1 c_int T.b_int (ec_cons ((ef_cmp (op_eqA hr.units) o_eq ((ef_op op_mod o_mod ((ef_op op_fdiv o_div ((ef_bt call_int1 c_int T.b_int (ec_cons ((ef_ix (ix_any (un65 hr)) o_ixX ((ef_var 0)).b ((ef_op op_mod o_mod ((ef_op op_addA o_add ((ef_op op_addA o_add (ef_int).b ((ef_op op_mulX' o_mulX (ef_int).b ((ef_var 10)).b)).b)).b ((ef_var 11)).b)).b (ef_int).b)).b)).b ec_nil))).b (ef_int).b)).b (ef_int).b)).b (ef_int).b rfl)).b ec_nil))).b)))).b)))).b ec_nil)) S__law_yard.nd)
    (ss_cons (ss_set 6 (ef_call G__law_cells (hr.mono (by decide : 1 ≤ 1)) T.g__law_cells kp__law_cells b__law_cells hx (ea_cons (ef_var 5) ea_nil)) S__law_yard.nd)
    (ss_cons (ss_if (et_cmp (op_ltX (un65 hr)) o_ltX ((ef_bi call_lenX c_lenX T.b_len (ec_cons ((ef_var 6)).b ec_nil))).b (ef_int).b rfl) (ss_cons (ss_set 5 (ef_op op_addA o_add ((ef_tup (ea_cons (ef_op op_mulX' o_mulX (ef_str).b ((ef_var 4)).b) ea_nil))).b ((ef_sl sl_any s_any ((ef_var 5)).b (eo_some ef_int) eo_none)).b) S__law_yard.nd)
    (ss_one (ss_set 6 (ef_call G__law_cells (hr.mono (by decide : 1 ≤ 1)) T.g__law_cells kp__law_cells b__law_cells hx (ea_cons (ef_var 5) ea_nil)) S__law_yard.nd))) ss_nil)
    (ss_cons (ss_set 7 (ef_op op_addA o_add (ef_int).b ((ef_op op_mod o_mod ((ef_bt call_int1 c_int T.b_int (ec_cons ((ef_ix (ix_any (un65 hr)) o_ixX ((ef_var 0)).b (ef_int).b)).b ec_nil))).b ((ef_bi (call_minX rfl (un65 hr)) c_minX T.b_min (ec_cons ((ef_var 2)).b (ec_cons ((ef_op op_sub o_sub ((ef_bi call_lenX c_lenX T.b_len (ec_cons ((ef_var 6)).b ec_nil))).b (ef_int).b)).b ec_nil)))).b)).b) S__law_yard.nd)
    (ss_cons (ss_setLc 8 rfl S__law_yard.nd rfl (sw_true rfl rfl rfl (by decide +kernel)) (ei_any ((en_bi (cr_sortedX rfl (un65 hr)) c_sortedX T.b_sorted (ec_cons ((en_lc rfl S__law_yard.nd (ei_range1 T.b_range (ea_cons (ef_bi call_lenX c_lenX T.b_len (ec_cons ((ef_var 6)).b ec_nil)) ea_nil)) (blkOk_by (own := [("k", 11)]) (by kernel_rfl)) (tg_name 11) (fun _ _ _ _ _ => (pg_name (i := 11) S__law_yard.nd rfl (by first | exact Or.inl rfl | exact Or.inr rfl))) (fun _ _ _ _ _ => ets_nil) (fun _ _ _ _ _ => (ef_tup (ea_cons (ef_op op_mod o_mod ((ef_op op_mulX' o_mulX ((ef_bt call_int1 c_int T.b_int (ec_cons ((ef_ix (ix_any (un65 hr)) o_ixX ((ef_var 0)).b ((ef_op op_addA o_add (ef_int).b ((ef_op op_mod o_mod ((ef_var 11)).b (ef_int).b)).b)).b)).b ec_nil))).b ((ef_op op_addA o_add ((ef_var 11)).b (ef_int).b)).b)).b (ef_int).b) (ea_cons (ef_var 11) ea_nil)))))).b ec_nil))).fz) (blkOk_by (own := [("pair", 12)]) (by kernel_rfl)) (tg_name 12) (fun _ _ _ _ _ => (pg_name (i := 12) S__law_yard.nd rfl (by first | exact Or.inl rfl | exact Or.inr rfl))) (fun _ _ _ _ _ => ets_nil) (fun _ _ _ _ _ => (ef_ix (ix_any (un65 hr)) o_ixX ((ef_var 6)).b ((ef_ix (ix_any (un65 hr)) o_ixX ((ef_var 12)).b (ef_int).b)).b)))
    (ss_cons (ss_setLc 9 rfl S__law_yard.nd rfl (sw_true rfl rfl rfl (by decide +kernel)) (ei_any ((en_bi (cr_sortedX rfl (un65 hr)) c_sortedX T.b_sorted (ec_cons ((en_lc rfl S__law_yard.nd (ei_range1 T.b_range (ea_cons (ef_bi call_lenX c_lenX T.b_len (ec_cons ((ef_var 6)).b ec_nil)) ea_nil)) (blkOk_by (own := [("k", 11)]) (by kernel_rfl)) (tg_name 11) (fun _ _ _ _ _ => (pg_name (i := 11) S__law_yard.nd rfl (by first | exact Or.inl rfl | exact Or.inr rfl))) (fun _ _ _ _ _ => ets_nil) (fun _ _ _ _ _ => (ef_tup (ea_cons (ef_op op_mod o_mod ((ef_op op_mulX' o_mulX ((ef_bt call_int1 c_int T.b_int (ec_cons ((ef_ix (ix_any (un65 hr)) o_ixX ((ef_var 0)).b ((ef_op op_addA o_add (ef_int).b ((ef_op op_mod o_mod ((ef_var 11)).b (ef_int).b)).b)).b)).b ec_nil))).b ((ef_op op_addA o_add ((ef_var 11)).b (ef_int).b)).b)).b (ef_int).b) (ea_cons (ef_var 11) ea_nil)))))).b ec_nil))).fz) (blkOk_by (own := [("pair", 12)]) (by kernel_rfl)) (tg_name 12) (fun _ _ _ _ _ => (pg_name (i := 12) S__law_yard.nd rfl (by first | exact Or.inl rfl | exact Or.inr rfl))) (fun _ _ _ _ _ => ets_nil) (fun _ _ _ _ _ => (ef_ix (ix_any (un65 hr)) o_ixX ((ef_var 6)).b ((ef_ix (ix_any (un65 hr)) o_ixX ((ef_var 12)).b (ef_int).b)).b)))
    (ss_one (ss_ret (ef_tup (ea_cons (ef_var 5) (ea_cons (ef_bt call_tuple_of c_tuple T.b_tuple (ec_cons ((en_bi (cr_sortedX rfl (un65 hr)) c_sortedX T.b_sorted (ec_cons ((ef_sl sl_any s_any ((ef_var 8)).b eo_none (eo_some (ef_var 7)))).b ec_nil))).b ec_nil)) (ea_cons (ef_tup (ea_cons (ef_ix (ix_any (un65 hr)) o_ixX ((ef_var 9)).b (ef_int).b) (ea_cons (ef_bt call_tuple_of c_tuple T.b_tuple (ec_cons ((en_bi (cr_sortedX rfl (un65 hr)) c_sortedX T.b_sorted (ec_cons ((ef_sl sl_any s_any ((ef_var 9)).b (eo_some ef_int) (eo_some (ef_op op_addA o_add ((ef_var 7)).b (ef_int).b)))).b ec_nil))).b ec_nil)) ea_nil))) ea_nil)))))))))))))
theorem S__law_step : FnScope ["cell", "heading"] ["cell", "heading"] (defScope (top 46)) := ⟨rfl, rfl, rfl, by decide +kernel, rfl, by decide +kernel, by decide +kernel⟩
theorem ok__law_step (T : Facts w K mg) : FnP P w K mg base 1 (He.ga K "_law_step") ["cell", "heading"] (spF K F__law_step) := by
  refine T.d__law_step.f S__law_step fun cdv A outer s H E hr => ?_
  have tk := L2.takes_of (X := cxOf (L2.CX P w) P w K mg base ["cell", "heading"] "_law_step" (defScope (top 46)) (He.ga K "_law_step") cdv A outer s H E) rfl rfl rfl rfl
  have hx := fun σ => L2.passAt tk σ
  have own := L2.passes_of (X := cxOf (L2.CX P w) P w K mg base ["cell", "heading"] "_law_step" (defScope (top 46)) (He.ga K "_law_step") cdv A outer s H E) rfl
  exact (ss_one (ss_ret (ef_tup (ea_cons (ef_op op_addA o_add ((ef_ix (ix_any (un65 hr)) o_ixX ((ef_var 0)).b (ef_int).b)).b ((ef_ix (ix_any (un65 hr)) o_ixX ((ef_tup (ea_cons (ef_neg (ef_int).b) (ea_cons ef_int (ea_cons ef_int (ea_cons ef_int ea_nil)))))).b ((ef_var 1)).b)).b) (ea_cons (ef_op op_addA o_add ((ef_ix (ix_any (un65 hr)) o_ixX ((ef_var 0)).b (ef_int).b)).b ((ef_ix (ix_any (un65 hr)) o_ixX ((ef_tup (ea_cons ef_int (ea_cons ef_int (ea_cons ef_int (ea_cons (ef_neg (ef_int).b) ea_nil)))))).b ((ef_var 1)).b)).b) ea_nil)))))
theorem S__law_out : FnScope ["rows", "box", "cells_v", "heading"] ["rows", "box"] (defScope (top 51)) := ⟨rfl, rfl, rfl, by decide +kernel, rfl, by decide +kernel, by decide +kernel⟩
theorem ok__law_out (T : Facts w K mg) : FnP P w K mg base 2 (He.ga K "_law_out") ["rows", "box"] (spF K F__law_out) := by
  obtain ⟨⟨fd__law_cells, G__law_cells, b__law_cells, _⟩, kp__law_cells⟩ := ok__law_cells T (P := P) (base := base)
  obtain ⟨⟨fd__law_step, G__law_step, b__law_step, _⟩, kp__law_step⟩ := ok__law_step T (P := P) (base := base)
  refine T.d__law_out.f S__law_out fun cdv A outer s H E hr => ?_
  have tk := L2.takes_of (X := cxOf (L2.CX P w) P w K mg base ["rows", "box", "cells_v", "heading"] "_law_out" (defScope (top 51)) (He.ga K "_law_out") cdv A outer s H E) rfl rfl rfl rfl
  have hx := fun σ => L2.passAt tk σ
  have own := L2.passes_of (X := cxOf (L2.CX P w) P w K mg base ["rows", "box", "cells_v", "heading"] "_law_out" (defScope (top 51)) (He.ga K "_law_out") cdv A outer s H E) rfl
  exact (ss_cons (ss_set 2 (ef_call G__law_cells (hr.mono (by decide : 1 ≤ 1)) T.g__law_cells kp__law_cells b__law_cells hx (ea_cons (ef_var 0) ea_nil)) S__law_out.nd)
    (ss_one (ss_ret ((en_lc rfl S__law_out.nd (ei_range1 T.b_range (ea_cons ef_int ea_nil)) (blkOk_by (own := [("heading", 3)]) (by kernel_rfl)) (tg_name 3) (fun _ _ _ _ _ => (pg_name (i := 3) S__law_out.nd rfl (by first | exact Or.inl rfl | exact Or.inr rfl))) (fun _ _ _ _ _ => (ets_one (ew_and (et_cmp (op_inX (un65 hr)) o_inX ((ef_call G__law_step (hr.mono (by decide : 1 ≤ 1)) T.g__law_step kp__law_step b__law_step passB (ea_cons (ef_var 1) (ea_cons (ef_var 3) ea_nil)))).b ((ef_var 2)).b rfl) (ew_and1 (et_cmp (op_inX (un65 hr)) o_inX ((ef_call G__law_step (hr.mono (by decide : 1 ≤ 1)) T.g__law_step kp__law_step b__law_step passB (ea_cons (ef_var 1) (ea_cons (ef_op op_mod o_mod ((ef_op op_addA o_add ((ef_var 3)).b (ef_int).b)).b (ef_int).b) ea_nil)))).b ((ef_var 2)).b rfl))).t)) (fun _ _ _ _ _ => (ef_call G__law_step (hr.mono (by decide : 1 ≤ 1)) T.g__law_step kp__law_step b__law_step passB (ea_cons (ef_var 1) (ea_cons (ef_var 3) ea_nil)))))).fz)))
theorem S__law_is_led : FnScope ["rows", "goals", "box", "seen", "waits", "here", "there"] ["rows", "goals", "box"] (defScope (top 52)) := ⟨rfl, rfl, rfl, by decide +kernel, rfl, by decide +kernel, by decide +kernel⟩
theorem ok__law_is_led (T : Facts w K mg) : FnP P w K mg base 3 (He.ga K "_law_is_led") ["rows", "goals", "box"] (spF K F__law_is_led) := by
  obtain ⟨⟨fd__law_out, G__law_out, b__law_out, _⟩, kp__law_out⟩ := ok__law_out T (P := P) (base := base)
  refine T.d__law_is_led.f S__law_is_led fun cdv A outer s H E hr => ?_
  have tk := L2.takes_of (X := cxOf (L2.CX P w) P w K mg base ["rows", "goals", "box", "seen", "waits", "here", "there"] "_law_is_led" (defScope (top 52)) (He.ga K "_law_is_led") cdv A outer s H E) rfl rfl rfl rfl
  have hx := fun σ => L2.passAt tk σ
  have own := L2.passes_of (X := cxOf (L2.CX P w) P w K mg base ["rows", "goals", "box", "seen", "waits", "here", "there"] "_law_is_led" (defScope (top 52)) (He.ga K "_law_is_led") cdv A outer s H E) rfl
  exact (ss_cons (ss_parNN 3 4 (en_lst (ea_cons (ef_var 2) ea_nil)) (en_lst (ea_cons (ef_var 2) ea_nil)) rfl S__law_is_led.nd)
    (ss_cons (ss_while 1000 own (et_cmp (op_gtX (un65 hr)) o_gtX ((ef_bi call_lenX c_lenX T.b_len (ec_cons (eb_var 4) ec_nil))).b (ef_int).b rfl) (ss_cons (ss_pop 4 5 S__law_is_led.nd)
    (ss_cons (ss_if (et_cmp (op_inX (un65 hr)) o_inX ((ef_var 5)).b ((ef_var 1)).b rfl) (ss_one (ss_ret ef_bl)) ss_nil)
    (ss_one (ss_for (vs := [6]) own rfl (ei_any (ef_call G__law_out (hr.mono (by decide : 2 ≤ 2)) T.g__law_out kp__law_out b__law_out hx (ea_cons (ef_var 0) (ea_cons (ef_var 5) ea_nil)))) (pg_name (i := 6) S__law_is_led.nd rfl (by first | exact Or.inl rfl | exact Or.inr rfl)) (tg_name 6)
    (ss_one (ss_if (et_cmp (op_notInX (un65 hr)) o_notInX ((ef_var 6)).b (eb_var 3) rfl) (ss_cons (ss_app 3 (ef_var 6))
    (ss_one (ss_app 4 (ef_var 6)))) ss_nil)))))))
    (ss_one (ss_ret ef_bl))))
theorem S__law_fault : FnScope ["rows", "goals", "value", "cell", "bad", "out", "one", "there"] ["rows", "goals", "value"] (defScope (top 53)) := ⟨rfl, rfl, rfl, by decide +kernel, rfl, by decide +kernel, by decide +kernel⟩
theorem ok__law_fault (T : Facts w K mg) : FnP P w K mg base 3 (He.ga K "_law_fault") ["rows", "goals", "value"] (spF K F__law_fault) := by
  obtain ⟨⟨fd__law_cells, G__law_cells, b__law_cells, _⟩, kp__law_cells⟩ := ok__law_cells T (P := P) (base := base)
  obtain ⟨⟨fd__law_out, G__law_out, b__law_out, _⟩, kp__law_out⟩ := ok__law_out T (P := P) (base := base)
  refine T.d__law_fault.f S__law_fault fun cdv A outer s H E hr => ?_
  have tk := L2.takes_of (X := cxOf (L2.CX P w) P w K mg base ["rows", "goals", "value", "cell", "bad", "out", "one", "there"] "_law_fault" (defScope (top 53)) (He.ga K "_law_fault") cdv A outer s H E) rfl rfl rfl rfl
  have hx := fun σ => L2.passAt tk σ
  have own := L2.passes_of (X := cxOf (L2.CX P w) P w K mg base ["rows", "goals", "value", "cell", "bad", "out", "one", "there"] "_law_fault" (defScope (top 53)) (He.ga K "_law_fault") cdv A outer s H E) rfl
  exact (ss_cons (ss_if (et_not (et_val (ef_bi call_isi c_isi T.b_isinstance (ec_cons ((ef_var 2)).b (ec_cons ((ef_bty T.b_tuple)).b ec_nil))))) (ss_one (ss_ret ef_str)) ss_nil)
    (ss_cons (ss_for (vs := [3]) own rfl (ei_any (ef_var 2)) (pg_name (i := 3) S__law_fault.nd rfl (by first | exact Or.inl rfl | exact Or.inr rfl)) (tg_name 3)
    (ss_one (ss_if (ew_or (et_not (et_val (ef_bi call_isi c_isi T.b_isinstance (ec_cons ((ef_var 3)).b (ec_cons ((ef_bty T.b_tuple)).b ec_nil))))) (ew_or (et_cmp (op_neA hr.units) o_ne ((ef_bi call_lenX c_lenX T.b_len (ec_cons ((ef_var 3)).b ec_nil))).b (ef_int).b rfl) (ew_or (et_not (et_val (ef_bi (cr_all rfl) c_all T.b_all (ec_cons ((en_lc rfl S__law_fault.nd (ei_any (ef_var 3)) (blkOk_by (own := [("one", 6)]) (by kernel_rfl)) (tg_name 6) (fun _ _ _ _ _ => (pg_name (i := 6) S__law_fault.nd rfl (by first | exact Or.inl rfl | exact Or.inr rfl))) (fun _ _ _ _ _ => ets_nil) (fun _ _ _ _ _ => (ef_and (ef_bi call_isi c_isi T.b_isinstance (ec_cons ((ef_var 6)).b (ec_cons ((ef_bty T.b_int)).b ec_nil))) (ef_one (ef_not (ef_bi call_isi c_isi T.b_isinstance (ec_cons ((ef_var 6)).b (ec_cons ((ef_bty T.b_bool)).b ec_nil))))))))).b ec_nil)))) (ew_or1 (et_cmp (op_notInX (un65 hr)) o_notInX ((ef_var 3)).b ((ef_call G__law_cells (hr.mono (by decide : 1 ≤ 2)) T.g__law_cells kp__law_cells b__law_cells hx (ea_cons (ef_var 0) ea_nil))).b rfl))))).t (ss_one (ss_ret ef_str)) ss_nil)))
    (ss_cons (ss_if (et_cmp (op_neA hr.units) o_ne ((en_bt call_list_of c_list T.b_list (ec_cons ((ef_var 2)).b ec_nil))).b ((en_sset rfl (un65 hr) T.b_sorted T.b_set ((ef_var 2)).b)).b rfl) (ss_one (ss_ret ef_str)) ss_nil)
    (ss_cons (ss_setLc 4 rfl S__law_fault.nd rfl (sw_true rfl rfl rfl (by decide +kernel)) (ei_any (ef_var 2)) (blkOk_by (own := [("cell", 3)]) (by kernel_rfl)) (tg_name 3) (fun _ _ _ _ _ => (pg_name (i := 3) S__law_fault.nd rfl (by first | exact Or.inl rfl | exact Or.inr rfl))) (fun _ _ _ _ _ => (ets_one (et_cmp (op_inX (un65 hr)) o_inX ((ef_var 3)).b ((ef_var 1)).b rfl))) (fun _ _ _ _ _ => (ef_var 3)))
    (ss_cons (ss_if (et_cmp (op_gtX (un65 hr)) o_gtX ((ef_bi call_lenX c_lenX T.b_len (ec_cons ((ef_var 4)).b ec_nil))).b (ef_int).b rfl) (ss_one (ss_ret (ef_tup (ea_cons ef_str (ea_cons (ef_ix (ix_any (un65 hr)) o_ixX ((ef_var 4)).b (ef_int).b) ea_nil))))) ss_nil)
    (ss_cons (ss_setLc 5 rfl S__law_fault.nd rfl (sw_true rfl rfl rfl (by decide +kernel)) (ei_any (ef_var 2)) (blkOk_by (own := [("cell", 3)]) (by kernel_rfl)) (tg_name 3) (fun _ _ _ _ _ => (pg_name (i := 3) S__law_fault.nd rfl (by first | exact Or.inl rfl | exact Or.inr rfl))) (fun _ _ _ _ _ => (ets_one (et_not (et_val (ef_bi (cr_all rfl) c_all T.b_all (ec_cons ((en_lc rfl S__law_fault.nd (ei_any (ef_call G__law_out (hr.mono (by decide : 2 ≤ 2)) T.g__law_out kp__law_out b__law_out passB (ea_cons (ef_var 0) (ea_cons (ef_var 3) ea_nil)))) (blkOk_by (own := [("there", 7)]) (by kernel_rfl)) (tg_name 7) (fun _ _ _ _ _ => (pg_name (i := 7) S__law_fault.nd rfl (by first | exact Or.inl rfl | exact Or.inr rfl))) (fun _ _ _ _ _ => ets_nil) (fun _ _ _ _ _ => (ef_cmp (op_inX (un65 hr)) o_inX ((ef_var 7)).b ((ef_var 2)).b rfl)))).b ec_nil)))))) (fun _ _ _ _ _ => (ef_var 3)))
    (ss_one (ss_ret (ef_if (et_cmp (op_gtX (un65 hr)) o_gtX ((ef_bi call_lenX c_lenX T.b_len (ec_cons ((ef_var 5)).b ec_nil))).b (ef_int).b rfl) (ef_tup (ea_cons ef_str (ea_cons (ef_ix (ix_any (un65 hr)) o_ixX ((ef_var 5)).b (ef_int).b) ea_nil))) ef_non)))))))))
theorem S_law : FnScope ["script", "draws", "rows", "goals", "state", "yard", "cells_v", "dead", "k", "some", "part", "one", "fault", "cell", "goal", "j", "box"] ["script"] (defScope (top 54)) := ⟨rfl, rfl, rfl, by decide +kernel, rfl, by decide +kernel, by decide +kernel⟩
theorem ok_law (T : Facts w K mg) : FnP P w K mg base 9 (He.ga K "law") ["script"] (spF K F_law) := by
  obtain ⟨⟨fd_Maze, G_Maze, b_Maze, _⟩, kp_Maze⟩ := ok_Maze T (P := P) (base := base)
  obtain ⟨⟨fd_Yard, G_Yard, b_Yard, _⟩, kp_Yard⟩ := ok_Yard T (P := P) (base := base)
  obtain ⟨⟨fd__law_cells, G__law_cells, b__law_cells, _⟩, kp__law_cells⟩ := ok__law_cells T (P := P) (base := base)
  obtain ⟨⟨fd__law_draws, G__law_draws, b__law_draws, _⟩, kp__law_draws⟩ := ok__law_draws T (P := P) (base := base)
  obtain ⟨⟨fd__law_fault, G__law_fault, b__law_fault, _⟩, kp__law_fault⟩ := ok__law_fault T (P := P) (base := base)
  obtain ⟨⟨fd__law_is_led, G__law_is_led, b__law_is_led, _⟩, kp__law_is_led⟩ := ok__law_is_led T (P := P) (base := base)
  obtain ⟨⟨fd__law_yard, G__law_yard, b__law_yard, _⟩, kp__law_yard⟩ := ok__law_yard T (P := P) (base := base)
  obtain ⟨⟨fd_dead_cells, G_dead_cells, b_dead_cells, _⟩, kp_dead_cells⟩ := ok_dead_cells T (P := P) (base := base)
  obtain ⟨⟨fd_dead_fault, G_dead_fault, b_dead_fault, _⟩, kp_dead_fault⟩ := ok_dead_fault T (P := P) (base := base)
  obtain ⟨⟨fd_solving, G_solving, b_solving, _⟩, kp_solving⟩ := ok_solving T (P := P) (base := base)
  refine T.d_law.f S_law fun cdv A outer s H E hr => ?_
  have tk := L2.takes_of (X := cxOf (L2.CX P w) P w K mg base ["script", "draws", "rows", "goals", "state", "yard", "cells_v", "dead", "k", "some", "part", "one", "fault", "cell", "goal", "j", "box"] "law" (defScope (top 54)) (He.ga K "law") cdv A outer s H E) rfl rfl rfl rfl
  have hx := fun σ => L2.passAt tk σ
  have own := L2.passes_of (X := cxOf (L2.CX P w) P w K mg base ["script", "draws", "rows", "goals", "state", "yard", "cells_v", "dead", "k", "some", "part", "one", "fault", "cell", "goal", "j", "box"] "law" (defScope (top 54)) (He.ga K "law") cdv A outer s H E) rfl
  exact (ss_cons (ss_set 1 (ef_call G__law_draws (hr.mono (by decide : 1 ≤ 8)) T.g__law_draws kp__law_draws b__law_draws hx (ea_cons (ef_var 0) (ea_cons ef_int ea_nil))) S_law.nd)
    (ss_cons (ss_asg (vs := [2, 3, 4]) (ef_call G__law_yard (hr.mono (by decide : 2 ≤ 8)) T.g__law_yard kp__law_yard b__law_yard hx (ea_cons (ef_var 1) (ea_cons ef_int (ea_cons ef_int ea_nil)))) (pg_tup rfl (pgs_cons (pg_name (i := 2) S_law.nd rfl (by first | exact Or.inl rfl | exact Or.inr rfl)) (pgs_cons (pg_name (i := 3) S_law.nd rfl (by first | exact Or.inl rfl | exact Or.inr rfl)) (pgs_cons (pg_name (i := 4) S_law.nd rfl (by first | exact Or.inl rfl | exact Or.inr rfl)) pgs_nil)))) (tg_tup (tgs_cons (tg_name 2) (tgs_cons (tg_name 3) (tgs_cons (tg_name 4) tgs_nil)))))
    (ss_cons (ss_par 5 6 (ef_makeE T.mk_Yard G_Yard hF_Yard hE_Yard (hr.mono (by decide : 6 ≤ 8)) T.g_Yard b_Yard hx (ea_cons (ef_makeE T.mk_Maze G_Maze hF_Maze hE_Maze (hr.mono (by decide : 2 ≤ 8)) T.g_Maze b_Maze hx (ea_cons (ef_var 2) ea_nil)) (ea_cons (ef_var 3) ea_nil))) (ef_call G__law_cells (hr.mono (by decide : 1 ≤ 8)) T.g__law_cells kp__law_cells b__law_cells hx (ea_cons (ef_var 2) ea_nil)) rfl S_law.nd)
    (ss_cons (ss_set 7 (ef_bt call_tuple_of c_tuple T.b_tuple (ec_cons ((en_lc rfl S_law.nd (ei_any (ef_var 6)) (blkOk_by (own := [("cell", 13)]) (by kernel_rfl)) (tg_name 13) (fun _ _ _ _ _ => (pg_name (i := 13) S_law.nd rfl (by first | exact Or.inl rfl | exact Or.inr rfl))) (fun _ _ _ _ _ => (ets_one (et_not (et_val (ef_call G__law_is_led (hr.mono (by decide : 3 ≤ 8)) T.g__law_is_led kp__law_is_led b__law_is_led passB (ea_cons (ef_var 2) (ea_cons (ef_var 3) (ea_cons (ef_var 13) ea_nil)))))))) (fun _ _ _ _ _ => (ef_var 13)))).b ec_nil)) S_law.nd)
    (ss_cons (ss_if (ew_or (et_cmp (op_neA hr.units) o_ne ((ef_call G_dead_cells (hr.mono (by decide : 5 ≤ 8)) T.g_dead_cells kp_dead_cells b_dead_cells hx (ea_cons (ef_var 5) ea_nil))).b ((ef_var 7)).b rfl) (ew_or (et_cmp op_notX o_notX ((ef_call G_dead_fault (hr.mono (by decide : 5 ≤ 8)) T.g_dead_fault kp_dead_fault b_dead_fault hx (ea_cons (ef_var 5) (ea_cons (ef_var 7) ea_nil)))).b (ef_non).b rfl) (ew_or1 (et_val (ef_bi (cr_any rfl) c_any T.b_any (ec_cons ((en_lc rfl S_law.nd (ei_any (ef_var 3)) (blkOk_by (own := [("goal", 14)]) (by kernel_rfl)) (tg_name 14) (fun _ _ _ _ _ => (pg_name (i := 14) S_law.nd rfl (by first | exact Or.inl rfl | exact Or.inr rfl))) (fun _ _ _ _ _ => ets_nil) (fun _ _ _ _ _ => (ef_cmp (op_inX (un65 hr)) o_inX ((ef_var 14)).b ((ef_var 7)).b rfl)))).b ec_nil)))))).t (ss_one (ss_ret ef_bl)) ss_nil)
    (ss_cons (ss_for (vs := [8]) own rfl (ei_range1 T.b_range (ea_cons ef_int ea_nil)) (pg_name (i := 8) S_law.nd rfl (by first | exact Or.inl rfl | exact Or.inr rfl)) (tg_name 8)
    (ss_cons (ss_set 9 (ef_bt call_tuple_of c_tuple T.b_tuple (ec_cons ((en_lc rfl S_law.nd (ei_enum T.b_enumerate (ef_var 6)) (blkOk_by (own := [("j", 15), ("cell", 13)]) (by kernel_rfl)) (tg_tup (tgs_cons (tg_name 15) (tgs_cons (tg_name 13) tgs_nil))) (fun _ _ _ _ _ => (pg_tup rfl (pgs_cons (pg_name (i := 15) S_law.nd rfl (by first | exact Or.inl rfl | exact Or.inr rfl)) (pgs_cons (pg_name (i := 13) S_law.nd rfl (by first | exact Or.inl rfl | exact Or.inr rfl)) pgs_nil)))) (fun _ _ _ _ _ => (ets_one (et_cmp (op_eqA hr.units) o_eq ((ef_op op_mod o_mod ((ef_op op_fdiv o_div ((ef_bt call_int1 c_int T.b_int (ec_cons ((ef_ix (ix_any (un65 hr)) o_ixX ((ef_var 1)).b ((ef_op op_addA o_add (ef_int).b ((ef_var 8)).b)).b)).b ec_nil))).b ((ef_op op_addA o_add (ef_int).b ((ef_var 15)).b)).b)).b (ef_int).b)).b (ef_int).b rfl))) (fun _ _ _ _ _ => (ef_var 13)))).b ec_nil)) S_law.nd)
    (ss_cons (ss_set 10 (ef_bt call_tuple_of c_tuple T.b_tuple (ec_cons ((en_lc rfl S_law.nd (ei_any (ef_var 7)) (blkOk_by (own := [("cell", 13)]) (by kernel_rfl)) (tg_name 13) (fun _ _ _ _ _ => (pg_name (i := 13) S_law.nd rfl (by first | exact Or.inl rfl | exact Or.inr rfl))) (fun _ _ _ _ _ => (ets_one (et_cmp (op_inX (un65 hr)) o_inX ((ef_var 13)).b ((ef_var 9)).b rfl))) (fun _ _ _ _ _ => (ef_var 13)))).b ec_nil)) S_law.nd)
    (ss_one (ss_for (vs := [11]) own rfl (ei_any (ef_tup (ea_cons (ef_var 9) (ea_cons (ef_var 10) (ea_cons (ef_op op_addA o_add ((ef_var 7)).b ((ef_var 9)).b) (ea_cons ((en_bt call_list_of c_list T.b_list (ec_cons ((ef_var 7)).b ec_nil))).fz (ea_cons ef_non (ea_cons (ef_tup (ea_cons ef_bl ea_nil)) (ea_cons (ef_revT ((ef_var 7)).b) (ea_cons (ef_bt call_tuple_of c_tuple T.b_tuple (ec_cons ((ef_var 6)).b ec_nil)) (ea_cons (ef_sl sl_any s_any ((ef_var 7)).b (eo_some ef_int) eo_none) ea_nil))))))))))) (pg_name (i := 11) S_law.nd rfl (by first | exact Or.inl rfl | exact Or.inr rfl)) (tg_name 11)
    (ss_cons (ss_set 12 (ef_call G__law_fault (hr.mono (by decide : 3 ≤ 8)) T.g__law_fault kp__law_fault b__law_fault hx (ea_cons (ef_var 2) (ea_cons (ef_var 3) (ea_cons (ef_var 11) ea_nil)))) S_law.nd)
    (ss_one (ss_if (ew_or (et_cmp (op_neA hr.units) o_ne ((ef_call G_dead_fault (hr.mono (by decide : 5 ≤ 8)) T.g_dead_fault kp_dead_fault b_dead_fault hx (ea_cons (ef_var 5) (ea_cons (ef_var 11) ea_nil)))).b ((ef_var 12)).b rfl) (ew_or1 (ew_and (et_cmp op_isX o_isX ((ef_var 12)).b (ef_non).b rfl) (ew_and1 (et_not (et_val (ef_bi (cr_all rfl) c_all T.b_all (ec_cons ((en_lc rfl S_law.nd (ei_any (ef_var 11)) (blkOk_by (own := [("cell", 13)]) (by kernel_rfl)) (tg_name 13) (fun _ _ _ _ _ => (pg_name (i := 13) S_law.nd rfl (by first | exact Or.inl rfl | exact Or.inr rfl))) (fun _ _ _ _ _ => ets_nil) (fun _ _ _ _ _ => (ef_cmp (op_inX (un65 hr)) o_inX ((ef_var 13)).b ((ef_var 7)).b rfl)))).b ec_nil)))))).t)).t (ss_one (ss_ret ef_bl)) ss_nil))))))))
    (ss_cons (ss_if (ew_and (et_cmp (op_leX (un65 hr)) o_leX ((ef_bi call_lenX c_lenX T.b_len (ec_cons ((ef_var 6)).b ec_nil))).b (ef_int).b rfl) (ew_and (et_cmp (op_ltX (un65 hr)) o_ltX ((ef_bi call_lenX c_lenX T.b_len (ec_cons ((ef_var 3)).b ec_nil))).b (ef_int).b rfl) (ew_and (et_val (ef_bi (cr_any rfl) c_any T.b_any (ec_cons ((en_lc rfl S_law.nd (ei_any (ef_ix (ix_any (un65 hr)) o_ixX ((ef_var 4)).b (ef_int).b)) (blkOk_by (own := [("box", 16)]) (by kernel_rfl)) (tg_name 16) (fun _ _ _ _ _ => (pg_name (i := 16) S_law.nd rfl (by first | exact Or.inl rfl | exact Or.inr rfl))) (fun _ _ _ _ _ => ets_nil) (fun _ _ _ _ _ => (ef_cmp (op_inX (un65 hr)) o_inX ((ef_var 16)).b ((ef_var 7)).b rfl)))).b ec_nil))) (ew_and (et_cmp (op_neA hr.units) o_ne ((ef_ix (ix_any (un65 hr)) o_ixX ((ef_call G_solving (hr.mono (by decide : 8 ≤ 8)) T.g_solving kp_solving b_solving hx (ea_cons (ef_var 5) (ea_cons (ef_var 4) ea_nil)))).b (ef_int).b)).b (ef_str).b rfl) (ew_and1 (et_cmp (op_neA hr.units) o_ne ((ef_ix (ix_any (un65 hr)) o_ixX ((ef_var 4)).b (ef_int).b)).b ((ef_var 3)).b rfl)))))).t (ss_one (ss_ret ef_bl)) ss_nil)
    (ss_one (ss_ret ef_bl)))))))))
end
def faL : List He.Fa := [.cls "Maze", .noat "Maze" "height", .noat "Maze" "rows", .noat "Maze" "width", .cls "Yard", .noat "Yard" "goals", .noat "Yard" "maze", .free "abs", .free "all", .free "any", .free "bool", .free "enumerate", .free "int", .free "isinstance", .free "len", .free "list", .free "min", .free "range", .free "set", .free "sorted", .free "str", .free "tuple", .glo "GOES", .glo "Maze", .glo "OTHERS", .glo "STEPS", .glo "Yard", .glo "_law_beside", .glo "_law_cells", .glo "_law_draws", .glo "_law_fault", .glo "_law_is_led", .glo "_law_out", .glo "_law_step", .glo "_law_yard", .glo "_searched", .glo "_steps", .glo "ahead", .glo "all_pushes", .glo "are_cells", .glo "beside", .glo "cells", .glo "check_state", .glo "dead_cells", .glo "dead_fault", .glo "is_cell", .glo "is_free", .glo "is_open", .glo "is_state", .glo "is_whole", .glo "law", .glo "moved", .glo "reach", .glo "sat", .glo "solving", .int "MOST" 14, .int "MOST_BOXES" 3, .int "MOST_CELLS" 20, .int "MOST_GOALS" 4, .mkr "Maze", .mkr "Yard", .exc "BadMaze", .glo "BadMaze", .exc "BadState", .glo "BadState", .exc "BadYard", .glo "BadYard", .exc "TooMany", .glo "TooMany", .str "OPEN" "."]
def fnL : List He.DefD := [⟨("Maze", some "__init__"), "__init__", "Maze.__init__", defArgs (inClass (top 12) 0), defBody (inClass (top 12) 0), defScope (inClass (top 12) 0), [], []⟩, ⟨("Yard", some "__init__"), "__init__", "Yard.__init__", defArgs (inClass (top 21) 0), defBody (inClass (top 21) 0), defScope (inClass (top 21) 0), [], []⟩, ⟨("_law_beside", none), "_law_beside", "_law_beside", defArgs (top 43), defBody (top 43), defScope (top 43), [], []⟩, ⟨("_law_cells", none), "_law_cells", "_law_cells", defArgs (top 42), defBody (top 42), defScope (top 42), [], []⟩, ⟨("_law_draws", none), "_law_draws", "_law_draws", defArgs (top 40), defBody (top 40), defScope (top 40), [], []⟩, ⟨("_law_fault", none), "_law_fault", "_law_fault", defArgs (top 53), defBody (top 53), defScope (top 53), [], []⟩, ⟨("_law_is_led", none), "_law_is_led", "_law_is_led", defArgs (top 52), defBody (top 52), defScope (top 52), [], []⟩, ⟨("_law_out", none), "_law_out", "_law_out", defArgs (top 51), defBody (top 51), defScope (top 51), [], []⟩, ⟨("_law_step", none), "_law_step", "_law_step", defArgs (top 46), defBody (top 46), defScope (top 46), [], []⟩, ⟨("_law_yard", none), "_law_yard", "_law_yard", defArgs (top 45), defBody (top 45), defScope (top 45), [], []⟩, ⟨("_searched", none), "_searched", "_searched", defArgs (top 37), defBody (top 37), defScope (top 37), [], []⟩, ⟨("_steps", none), "_steps", "_steps", defArgs (top 31), defBody (top 31), defScope (top 31), [], []⟩, ⟨("ahead", none), "ahead", "ahead", defArgs (top 24), defBody (top 24), defScope (top 24), [], []⟩, ⟨("all_pushes", none), "all_pushes", "all_pushes", defArgs (top 27), defBody (top 27), defScope (top 27), [], []⟩, ⟨("are_cells", none), "are_cells", "are_cells", defArgs (top 20), defBody (top 20), defScope (top 20), [], []⟩, ⟨("beside", none), "beside", "beside", defArgs (top 16), defBody (top 16), defScope (top 16), [], []⟩, ⟨("cells", none), "cells", "cells", defArgs (top 15), defBody (top 15), defScope (top 15), [], []⟩, ⟨("check_state", none), "check_state", "check_state", defArgs (top 23), defBody (top 23), defScope (top 23), [], []⟩, ⟨("dead_cells", none), "dead_cells", "dead_cells", defArgs (top 32), defBody (top 32), defScope (top 32), [], []⟩, ⟨("dead_fault", none), "dead_fault", "dead_fault", defArgs (top 33), defBody (top 33), defScope (top 33), [], []⟩, ⟨("is_cell", none), "is_cell", "is_cell", defArgs (top 13), defBody (top 13), defScope (top 13), [], []⟩, ⟨("is_free", none), "is_free", "is_free", defArgs (top 26), defBody (top 26), defScope (top 26), [], []⟩, ⟨("is_open", none), "is_open", "is_open", defArgs (top 14), defBody (top 14), defScope (top 14), [], []⟩, ⟨("is_state", none), "is_state", "is_state", defArgs (top 22), defBody (top 22), defScope (top 22), [], []⟩, ⟨("is_whole", none), "is_whole", "is_whole", defArgs (top 11), defBody (top 11), defScope (top 11), [], []⟩, ⟨("law", none), "law", "law", defArgs (top 54), defBody (top 54), defScope (top 54), [], []⟩, ⟨("moved", none), "moved", "moved", defArgs (top 28), defBody (top 28), defScope (top 28), [], []⟩, ⟨("reach", none), "reach", "reach", defArgs (top 25), defBody (top 25), defScope (top 25), [], []⟩, ⟨("sat", none), "sat", "sat", defArgs (top 29), defBody (top 29), defScope (top 29), [], []⟩, ⟨("solving", none), "solving", "solving", defArgs (top 38), defBody (top 38), defScope (top 38), [], []⟩]
def tsL : List He.Tab := [(fun K => He.ga K "OTHERS", tb_OTHERS.map (·.1))]
def exl (K : PySem.W.Frag) : List Bool := [cB K (.tup [.tup [.int (-1), .int 0], .tup [.int 0, .int 1], .tup [.int 1, .int 0], .tup [.int 0, .int (-1)]]) (.ref (He.ga K "GOES")), cB K (.tup [.tup [.int (-1), .int 0], .tup [.int 0, .int (-1)], .tup [.int 0, .int 1], .tup [.int 1, .int 0]]) (.ref (He.ga K "STEPS")), tblB "OTHERS" tb_OTHERS K]
def exB (K : PySem.W.Frag) : Bool := (exl K).all id
theorem factsOf {w : World} {h : Heap} {K : PySem.W.Frag} {mg : Str → Option Value} (X : K.In h) (G : h.Ns mainGlobals mg) (c : He.SaysX faL fnL tsL [] exB w h K) : Facts w K mg where
  ct_GOES := ctup_of (allB (l := exl K) c.more 0 rfl)
  ct_STEPS := ctup_of (allB (l := exl K) c.more 1 rfl)
  d_Maze := DefK.of (c.t.d.def_ 0 (d := ⟨("Maze", some "__init__"), "__init__", "Maze.__init__", defArgs (inClass (top 12) 0), defBody (inClass (top 12) 0), defScope (inClass (top 12) 0), [], []⟩) rfl) (fun _ _ _ _ _ _ us hl => match us, hl with | [_, _], _ => rfl)
  d_Yard := DefK.of (c.t.d.def_ 1 (d := ⟨("Yard", some "__init__"), "__init__", "Yard.__init__", defArgs (inClass (top 21) 0), defBody (inClass (top 21) 0), defScope (inClass (top 21) 0), [], []⟩) rfl) (fun _ _ _ _ _ _ us hl => match us, hl with | [_, _, _], _ => rfl)
  d__law_beside := DefK.of (c.t.d.def_ 2 (d := ⟨("_law_beside", none), "_law_beside", "_law_beside", defArgs (top 43), defBody (top 43), defScope (top 43), [], []⟩) rfl) (fun _ _ _ _ _ _ us hl => match us, hl with | [_, _], _ => rfl)
  d__law_cells := DefK.of (c.t.d.def_ 3 (d := ⟨("_law_cells", none), "_law_cells", "_law_cells", defArgs (top 42), defBody (top 42), defScope (top 42), [], []⟩) rfl) (fun _ _ _ _ _ _ us hl => match us, hl with | [_], _ => rfl)
  d__law_draws := DefK.of (c.t.d.def_ 4 (d := ⟨("_law_draws", none), "_law_draws", "_law_draws", defArgs (top 40), defBody (top 40), defScope (top 40), [], []⟩) rfl) (fun _ _ _ _ _ _ us hl => match us, hl with | [_, _], _ => rfl)
  d__law_fault := DefK.of (c.t.d.def_ 5 (d := ⟨("_law_fault", none), "_law_fault", "_law_fault", defArgs (top 53), defBody (top 53), defScope (top 53), [], []⟩) rfl) (fun _ _ _ _ _ _ us hl => match us, hl with | [_, _, _], _ => rfl)
  d__law_is_led := DefK.of (c.t.d.def_ 6 (d := ⟨("_law_is_led", none), "_law_is_led", "_law_is_led", defArgs (top 52), defBody (top 52), defScope (top 52), [], []⟩) rfl) (fun _ _ _ _ _ _ us hl => match us, hl with | [_, _, _], _ => rfl)
  d__law_out := DefK.of (c.t.d.def_ 7 (d := ⟨("_law_out", none), "_law_out", "_law_out", defArgs (top 51), defBody (top 51), defScope (top 51), [], []⟩) rfl) (fun _ _ _ _ _ _ us hl => match us, hl with | [_, _], _ => rfl)
  d__law_step := DefK.of (c.t.d.def_ 8 (d := ⟨("_law_step", none), "_law_step", "_law_step", defArgs (top 46), defBody (top 46), defScope (top 46), [], []⟩) rfl) (fun _ _ _ _ _ _ us hl => match us, hl with | [_, _], _ => rfl)
  d__law_yard := DefK.of (c.t.d.def_ 9 (d := ⟨("_law_yard", none), "_law_yard", "_law_yard", defArgs (top 45), defBody (top 45), defScope (top 45), [], []⟩) rfl) (fun _ _ _ _ _ _ us hl => match us, hl with | [_, _, _], _ => rfl)
  d__searched := DefK.of (c.t.d.def_ 10 (d := ⟨("_searched", none), "_searched", "_searched", defArgs (top 37), defBody (top 37), defScope (top 37), [], []⟩) rfl) (fun _ _ _ _ _ _ us hl => match us, hl with | [_, _], _ => rfl)
  d__steps := DefK.of (c.t.d.def_ 11 (d := ⟨("_steps", none), "_steps", "_steps", defArgs (top 31), defBody (top 31), defScope (top 31), [], []⟩) rfl) (fun _ _ _ _ _ _ us hl => match us, hl with | [_, _], _ => rfl)
  d_ahead := DefK.of (c.t.d.def_ 12 (d := ⟨("ahead", none), "ahead", "ahead", defArgs (top 24), defBody (top 24), defScope (top 24), [], []⟩) rfl) (fun _ _ _ _ _ _ us hl => match us, hl with | [_, _], _ => rfl)
  d_all_pushes := DefK.of (c.t.d.def_ 13 (d := ⟨("all_pushes", none), "all_pushes", "all_pushes", defArgs (top 27), defBody (top 27), defScope (top 27), [], []⟩) rfl) (fun _ _ _ _ _ _ us hl => match us, hl with | [_, _], _ => rfl)
  d_are_cells := DefK.of (c.t.d.def_ 14 (d := ⟨("are_cells", none), "are_cells", "are_cells", defArgs (top 20), defBody (top 20), defScope (top 20), [], []⟩) rfl) (fun _ _ _ _ _ _ us hl => match us, hl with | [_, _], _ => rfl)
  d_beside := DefK.of (c.t.d.def_ 15 (d := ⟨("beside", none), "beside", "beside", defArgs (top 16), defBody (top 16), defScope (top 16), [], []⟩) rfl) (fun _ _ _ _ _ _ us hl => match us, hl with | [_, _], _ => rfl)
  d_cells := DefK.of (c.t.d.def_ 16 (d := ⟨("cells", none), "cells", "cells", defArgs (top 15), defBody (top 15), defScope (top 15), [], []⟩) rfl) (fun _ _ _ _ _ _ us hl => match us, hl with | [_], _ => rfl)
  d_check_state := DefK.of (c.t.d.def_ 17 (d := ⟨("check_state", none), "check_state", "check_state", defArgs (top 23), defBody (top 23), defScope (top 23), [], []⟩) rfl) (fun _ _ _ _ _ _ us hl => match us, hl with | [_, _], _ => rfl)
  d_dead_cells := DefK.of (c.t.d.def_ 18 (d := ⟨("dead_cells", none), "dead_cells", "dead_cells", defArgs (top 32), defBody (top 32), defScope (top 32), [], []⟩) rfl) (fun _ _ _ _ _ _ us hl => match us, hl with | [_], _ => rfl)
  d_dead_fault := DefK.of (c.t.d.def_ 19 (d := ⟨("dead_fault", none), "dead_fault", "dead_fault", defArgs (top 33), defBody (top 33), defScope (top 33), [], []⟩) rfl) (fun _ _ _ _ _ _ us hl => match us, hl with | [_, _], _ => rfl)
  d_is_cell := DefK.of (c.t.d.def_ 20 (d := ⟨("is_cell", none), "is_cell", "is_cell", defArgs (top 13), defBody (top 13), defScope (top 13), [], []⟩) rfl) (fun _ _ _ _ _ _ us hl => match us, hl with | [_, _], _ => rfl)
  d_is_free := DefK.of (c.t.d.def_ 21 (d := ⟨("is_free", none), "is_free", "is_free", defArgs (top 26), defBody (top 26), defScope (top 26), [], []⟩) rfl) (fun _ _ _ _ _ _ us hl => match us, hl with | [_, _, _], _ => rfl)
  d_is_open := DefK.of (c.t.d.def_ 22 (d := ⟨("is_open", none), "is_open", "is_open", defArgs (top 14), defBody (top 14), defScope (top 14), [], []⟩) rfl) (fun _ _ _ _ _ _ us hl => match us, hl with | [_, _], _ => rfl)
  d_is_state := DefK.of (c.t.d.def_ 23 (d := ⟨("is_state", none), "is_state", "is_state", defArgs (top 22), defBody (top 22), defScope (top 22), [], []⟩) rfl) (fun _ _ _ _ _ _ us hl => match us, hl with | [_, _], _ => rfl)
  d_is_whole := DefK.of (c.t.d.def_ 24 (d := ⟨("is_whole", none), "is_whole", "is_whole", defArgs (top 11), defBody (top 11), defScope (top 11), [], []⟩) rfl) (fun _ _ _ _ _ _ us hl => match us, hl with | [_, _, _], _ => rfl)
  d_law := DefK.of (c.t.d.def_ 25 (d := ⟨("law", none), "law", "law", defArgs (top 54), defBody (top 54), defScope (top 54), [], []⟩) rfl) (fun _ _ _ _ _ _ us hl => match us, hl with | [_], _ => rfl)
  d_moved := DefK.of (c.t.d.def_ 26 (d := ⟨("moved", none), "moved", "moved", defArgs (top 28), defBody (top 28), defScope (top 28), [], []⟩) rfl) (fun _ _ _ _ _ _ us hl => match us, hl with | [_, _], _ => rfl)
  d_reach := DefK.of (c.t.d.def_ 27 (d := ⟨("reach", none), "reach", "reach", defArgs (top 25), defBody (top 25), defScope (top 25), [], []⟩) rfl) (fun _ _ _ _ _ _ us hl => match us, hl with | [_, _], _ => rfl)
  d_sat := DefK.of (c.t.d.def_ 28 (d := ⟨("sat", none), "sat", "sat", defArgs (top 29), defBody (top 29), defScope (top 29), [], []⟩) rfl) (fun _ _ _ _ _ _ us hl => match us, hl with | [_, _], _ => rfl)
  d_solving := DefK.of (c.t.d.def_ 29 (d := ⟨("solving", none), "solving", "solving", defArgs (top 38), defBody (top 38), defScope (top 38), [], []⟩) rfl) (fun _ _ _ _ _ _ us hl => match us, hl with | [_, _], _ => rfl)
  fld_Maze_height := fldOk_of (c.t.d.fact 0 (f := .cls "Maze") rfl) (c.t.d.fact 1 (f := .noat "Maze" "height") rfl)
  fld_Maze_rows := fldOk_of (c.t.d.fact 0 (f := .cls "Maze") rfl) (c.t.d.fact 2 (f := .noat "Maze" "rows") rfl)
  fld_Maze_width := fldOk_of (c.t.d.fact 0 (f := .cls "Maze") rfl) (c.t.d.fact 3 (f := .noat "Maze" "width") rfl)
  fld_Yard_goals := fldOk_of (c.t.d.fact 4 (f := .cls "Yard") rfl) (c.t.d.fact 5 (f := .noat "Yard" "goals") rfl)
  fld_Yard_maze := fldOk_of (c.t.d.fact 4 (f := .cls "Yard") rfl) (c.t.d.fact 6 (f := .noat "Yard" "maze") rfl)
  b_abs := He.free_ok X G (c.t.d.fact 7 (f := .free "abs") rfl)
  b_all := He.free_ok X G (c.t.d.fact 8 (f := .free "all") rfl)
  b_any := He.free_ok X G (c.t.d.fact 9 (f := .free "any") rfl)
  b_bool := He.free_ok X G (c.t.d.fact 10 (f := .free "bool") rfl)
  b_enumerate := He.free_ok X G (c.t.d.fact 11 (f := .free "enumerate") rfl)
  b_int := He.free_ok X G (c.t.d.fact 12 (f := .free "int") rfl)
  b_isinstance := He.free_ok X G (c.t.d.fact 13 (f := .free "isinstance") rfl)
  b_len := He.free_ok X G (c.t.d.fact 14 (f := .free "len") rfl)
  b_list := He.free_ok X G (c.t.d.fact 15 (f := .free "list") rfl)
  b_min := He.free_ok X G (c.t.d.fact 16 (f := .free "min") rfl)
  b_range := He.free_ok X G (c.t.d.fact 17 (f := .free "range") rfl)
  b_set := He.free_ok X G (c.t.d.fact 18 (f := .free "set") rfl)
  b_sorted := He.free_ok X G (c.t.d.fact 19 (f := .free "sorted") rfl)
  b_str := He.free_ok X G (c.t.d.fact 20 (f := .free "str") rfl)
  b_tuple := He.free_ok X G (c.t.d.fact 21 (f := .free "tuple") rfl)
  g_GOES := He.glo_ok X G (c.t.d.fact 22 (f := .glo "GOES") rfl)
  g_Maze := He.glo_ok X G (c.t.d.fact 23 (f := .glo "Maze") rfl)
  g_OTHERS := He.glo_ok X G (c.t.d.fact 24 (f := .glo "OTHERS") rfl)
  g_STEPS := He.glo_ok X G (c.t.d.fact 25 (f := .glo "STEPS") rfl)
  g_Yard := He.glo_ok X G (c.t.d.fact 26 (f := .glo "Yard") rfl)
  g__law_beside := He.glo_ok X G (c.t.d.fact 27 (f := .glo "_law_beside") rfl)
  g__law_cells := He.glo_ok X G (c.t.d.fact 28 (f := .glo "_law_cells") rfl)
  g__law_draws := He.glo_ok X G (c.t.d.fact 29 (f := .glo "_law_draws") rfl)
  g__law_fault := He.glo_ok X G (c.t.d.fact 30 (f := .glo "_law_fault") rfl)
  g__law_is_led := He.glo_ok X G (c.t.d.fact 31 (f := .glo "_law_is_led") rfl)
  g__law_out := He.glo_ok X G (c.t.d.fact 32 (f := .glo "_law_out") rfl)
  g__law_step := He.glo_ok X G (c.t.d.fact 33 (f := .glo "_law_step") rfl)
  g__law_yard := He.glo_ok X G (c.t.d.fact 34 (f := .glo "_law_yard") rfl)
  g__searched := He.glo_ok X G (c.t.d.fact 35 (f := .glo "_searched") rfl)
  g__steps := He.glo_ok X G (c.t.d.fact 36 (f := .glo "_steps") rfl)
  g_ahead := He.glo_ok X G (c.t.d.fact 37 (f := .glo "ahead") rfl)
  g_all_pushes := He.glo_ok X G (c.t.d.fact 38 (f := .glo "all_pushes") rfl)
  g_are_cells := He.glo_ok X G (c.t.d.fact 39 (f := .glo "are_cells") rfl)
  g_beside := He.glo_ok X G (c.t.d.fact 40 (f := .glo "beside") rfl)
  g_cells := He.glo_ok X G (c.t.d.fact 41 (f := .glo "cells") rfl)
  g_check_state := He.glo_ok X G (c.t.d.fact 42 (f := .glo "check_state") rfl)
  g_dead_cells := He.glo_ok X G (c.t.d.fact 43 (f := .glo "dead_cells") rfl)
  g_dead_fault := He.glo_ok X G (c.t.d.fact 44 (f := .glo "dead_fault") rfl)
  g_is_cell := He.glo_ok X G (c.t.d.fact 45 (f := .glo "is_cell") rfl)
  g_is_free := He.glo_ok X G (c.t.d.fact 46 (f := .glo "is_free") rfl)
  g_is_open := He.glo_ok X G (c.t.d.fact 47 (f := .glo "is_open") rfl)
  g_is_state := He.glo_ok X G (c.t.d.fact 48 (f := .glo "is_state") rfl)
  g_is_whole := He.glo_ok X G (c.t.d.fact 49 (f := .glo "is_whole") rfl)
  g_law := He.glo_ok X G (c.t.d.fact 50 (f := .glo "law") rfl)
  g_moved := He.glo_ok X G (c.t.d.fact 51 (f := .glo "moved") rfl)
  g_reach := He.glo_ok X G (c.t.d.fact 52 (f := .glo "reach") rfl)
  g_sat := He.glo_ok X G (c.t.d.fact 53 (f := .glo "sat") rfl)
  g_solving := He.glo_ok X G (c.t.d.fact 54 (f := .glo "solving") rfl)
  i_MOST := He.int_ok X G (c.t.d.fact 55 (f := .int "MOST" 14) rfl)
  i_MOST_BOXES := He.int_ok X G (c.t.d.fact 56 (f := .int "MOST_BOXES" 3) rfl)
  i_MOST_CELLS := He.int_ok X G (c.t.d.fact 57 (f := .int "MOST_CELLS" 20) rfl)
  i_MOST_GOALS := He.int_ok X G (c.t.d.fact 58 (f := .int "MOST_GOALS" 4) rfl)
  mk_Maze := He.mkr_ok (c.t.d.fact 59 (f := .mkr "Maze") rfl)
  mk_Yard := He.mkr_ok (c.t.d.fact 60 (f := .mkr "Yard") rfl)
  ra_BadMaze := ⟨He.exc_ok (c.t.d.fact 61 (f := .exc "BadMaze") rfl), He.glo_ok X G (c.t.d.fact 62 (f := .glo "BadMaze") rfl)⟩
  ra_BadState := ⟨He.exc_ok (c.t.d.fact 63 (f := .exc "BadState") rfl), He.glo_ok X G (c.t.d.fact 64 (f := .glo "BadState") rfl)⟩
  ra_BadYard := ⟨He.exc_ok (c.t.d.fact 65 (f := .exc "BadYard") rfl), He.glo_ok X G (c.t.d.fact 66 (f := .glo "BadYard") rfl)⟩
  ra_TooMany := ⟨He.exc_ok (c.t.d.fact 67 (f := .exc "TooMany") rfl), He.glo_ok X G (c.t.d.fact 68 (f := .glo "TooMany") rfl)⟩
  s_OPEN := He.str_ok X G (c.t.d.fact 69 (f := .str "OPEN" ".") rfl)
  t_OTHERS := ktab_of (saysT_dic c.t 0 (t := (fun K => He.ga K "OTHERS", tb_OTHERS.map (·.1))) rfl) (allB (l := exl K) c.more 2 rfl)
-- law level 9  top index (top 54)
end K96

namespace K96
abbrev Pt := Int × Int
/-! ### the walk through a room -/
def visit (B : List Pt) : List Pt → List Pt × List Pt → List Pt × List Pt
  | [], s => s
  | c :: cs, s => if c ∉ s.1 ∧ c ∉ B then visit B cs (s.1 ++ [c], s.2 ++ [c]) else visit B cs s
def dfs (nb : Pt → List Pt) (B : List Pt) : Nat → List Pt × List Pt → Option (List Pt)
  | 0, _ => none
  | n + 1, (f, w) => match w.getLast? with
    | none => some f
    | some x => dfs nb B n (visit B (nb x) (f, w.dropLast))
inductive Reach (nb : Pt → List Pt) (B : List Pt) (s : Pt) : Pt → Prop
  | here : Reach nb B s s
  | step {x y : Pt} : Reach nb B s x → y ∈ nb x → y ∉ B → Reach nb B s y
theorem Reach.trans {nb : Pt → List Pt} {B : List Pt} {s x y : Pt} (a : Reach nb B s x) (b : Reach nb B x y) : Reach nb B s y := by
  induction b with
  | here => exact a
  | step _ h1 h2 ih => exact ih.step h1 h2
structure Inv (nb : Pt → List Pt) (B U : List Pt) (s : Pt) (done : Pt → Prop) (f w : List Pt) : Prop where
  nd : f.Nodup
  sub : ∀ x ∈ f, x ∈ U
  out : ∀ x ∈ f, x ∉ B
  start : s ∈ f
  wf : ∀ x ∈ w, x ∈ f
  reach : ∀ x ∈ f, Reach nb B s x
  cl : ∀ x ∈ f, x ∉ w → ¬ done x → ∀ y ∈ nb x, y ∉ B → y ∈ f
theorem visit_inv {nb : Pt → List Pt} {B U : List Pt} {s x : Pt} (hx : Reach nb B s x) (hU : ∀ y ∈ nb x, y ∈ U) : ∀ (cs f w : List Pt), (∀ y ∈ cs, y ∈ nb x) → Inv nb B U s (· = x) f w →
    Inv nb B U s (· = x) (visit B cs (f, w)).1 (visit B cs (f, w)).2 ∧ (∀ y ∈ f, y ∈ (visit B cs (f, w)).1) ∧ (∀ y ∈ cs, y ∉ B → y ∈ (visit B cs (f, w)).1) ∧
      (visit B cs (f, w)).2.length + f.length = w.length + (visit B cs (f, w)).1.length ∧ f.length ≤ (visit B cs (f, w)).1.length
  | [], f, w, _, i => ⟨i, fun _ h => h, fun _ h => by simp at h, rfl, Nat.le_refl _⟩
  | c :: cs, f, w, hc, i => by
    unfold visit
    by_cases h : c ∉ f ∧ c ∉ B
    · rw [if_pos h]
      have j : Inv nb B U s (· = x) (f ++ [c]) (w ++ [c]) := by
        refine ⟨List.nodup_append.mpr ⟨i.nd, by simp, fun a ha b hb => ?_⟩, fun y hy => ?_, fun y hy => ?_, List.mem_append_left _ i.start, fun y hy => ?_, fun y hy => ?_, fun y hy hw hn z hz hB => ?_⟩
        · rw [List.mem_singleton.mp hb]; exact fun e => h.1 (e ▸ ha)
        · rcases List.mem_append.mp hy with h1 | h1
          · exact i.sub y h1
          · rw [List.mem_singleton.mp h1]; exact hU c (hc c (by simp))
        · rcases List.mem_append.mp hy with h1 | h1
          · exact i.out y h1
          · rw [List.mem_singleton.mp h1]; exact h.2
        · rcases List.mem_append.mp hy with h1 | h1
          · exact List.mem_append_left _ (i.wf y h1)
          · exact List.mem_append_right _ h1
        · rcases List.mem_append.mp hy with h1 | h1
          · exact i.reach y h1
          · rw [List.mem_singleton.mp h1]; exact hx.step (hc c (by simp)) h.2
        · rcases List.mem_append.mp hy with h1 | h1
          · exact List.mem_append_left _ (i.cl y h1 (fun q => hw (List.mem_append_left _ q)) hn z hz hB)
          · exact absurd (List.mem_append_right _ h1) hw
      obtain ⟨k1, k2, k3, k4, k5⟩ := visit_inv hx hU cs (f ++ [c]) (w ++ [c]) (fun y hy => hc y (by simp [hy])) j
      refine ⟨k1, fun y hy => k2 y (List.mem_append_left _ hy), fun y hy hB => ?_, ?_, ?_⟩
      · rcases List.mem_cons.mp hy with e | e
        · rw [e]; exact k2 c (by simp)
        · exact k3 y e hB
      · simp only [List.length_append, List.length_singleton] at k4 ⊢; omega
      · simp only [List.length_append, List.length_singleton] at k5 ⊢; omega
    · rw [if_neg h]
      obtain ⟨k1, k2, k3, k4, k5⟩ := visit_inv hx hU cs f w (fun y hy => hc y (by simp [hy])) i
      refine ⟨k1, k2, fun y hy hB => ?_, k4, k5⟩
      rcases List.mem_cons.mp hy with e | e
      · rw [e] at hB ⊢
        refine k2 c ?_
        by_cases q : c ∈ f
        · exact q
        · exact absurd ⟨q, hB⟩ h
      · exact k3 y e hB
theorem nodup_len {α : Type} [DecidableEq α] : ∀ (f U : List α), f.Nodup → (∀ x ∈ f, x ∈ U) → f.length ≤ U.length
  | [], _, _, _ => Nat.zero_le _
  | x :: f, U, n, h => by
    have hx := h x (by simp)
    have nd := List.nodup_cons.mp n
    have := nodup_len f (U.erase x) nd.2 fun y hy => (List.mem_erase_of_ne (fun e => by rw [e] at hy; exact nd.1 hy)).mpr (h y (by simp [hy]))
    rw [List.length_erase_of_mem hx] at this
    have : 0 < U.length := List.length_pos_of_mem hx
    simp only [List.length_cons]
    omega
theorem dfs_ok {nb : Pt → List Pt} {B U : List Pt} {s : Pt} (hU : ∀ x ∈ U, ∀ y ∈ nb x, y ∈ U) : ∀ (n : Nat) (f w : List Pt), Inv nb B U s (fun _ => False) f w → w.length + 2 * U.length < n + 2 * f.length →
    ∃ g, dfs nb B n (f, w) = some g ∧ g.Nodup ∧ (∀ x, x ∈ g ↔ Reach nb B s x) ∧ (∀ x ∈ g, x ∈ U) ∧ ∀ x ∈ g, x ∉ B
  | 0, f, w, i, h => by
    have := nodup_len f U i.nd i.sub
    omega
  | n + 1, f, w, i, h => by
    unfold dfs
    cases e : w.getLast? with
    | none =>
      have : w = [] := by simpa using e
      subst this
      refine ⟨f, rfl, i.nd, fun x => ⟨i.reach x, fun r => ?_⟩, i.sub, i.out⟩
      induction r with
      | here => exact i.start
      | step _ h1 h2 ih => exact i.cl _ ih (by simp) (fun z => z) _ h1 h2
    | some x =>
      have hw : w = w.dropLast ++ [x] := by
        obtain ⟨ys, hys⟩ := List.getLast?_eq_some_iff.mp e
        rw [hys, List.dropLast_concat]
      have hx : x ∈ w := by rw [hw]; simp
      have hxf := i.wf x hx
      have j : Inv nb B U s (· = x) f w.dropLast := by
        refine ⟨i.nd, i.sub, i.out, i.start, fun y hy => i.wf y (by rw [hw]; exact List.mem_append_left _ hy), i.reach, fun y hy hn hd => i.cl y hy (fun q => ?_) fun z => z⟩
        rw [hw] at q
        rcases List.mem_append.mp q with q | q
        · exact hn q
        · exact hd (List.mem_singleton.mp q)
      obtain ⟨k1, k2, k3, k4, k5⟩ := visit_inv (i.reach x hxf) (hU x (i.sub x hxf)) (nb x) f w.dropLast (fun _ h => h) j
      have hl : w.length = w.dropLast.length + 1 := by
        have := congrArg List.length hw
        simpa using this
      exact dfs_ok hU n _ _ ⟨k1.nd, k1.sub, k1.out, k1.start, k1.wf, k1.reach, fun y hy hn _ z hz hB => by
        by_cases q : y = x
        · rw [q] at hz; exact k3 z hz hB
        · exact k1.cl y hy hn q z hz hB⟩ (by omega)
theorem Reach.inU {nb : Pt → List Pt} {B U : List Pt} {s x : Pt} (hU : ∀ x ∈ U, ∀ y ∈ nb x, y ∈ U) (hs : s ∈ U) (r : Reach nb B s x) : x ∈ U := by
  induction r with
  | here => exact hs
  | step _ h1 _ ih => exact hU _ ih _ h1
theorem Reach.out {nb : Pt → List Pt} {B : List Pt} {s x : Pt} (hs : s ∉ B) (r : Reach nb B s x) : x ∉ B := by
  cases r with
  | here => exact hs
  | step _ _ h2 => exact h2
theorem Reach.sym {nb : Pt → List Pt} {B U : List Pt} {s x : Pt} (hU : ∀ x ∈ U, ∀ y ∈ nb x, y ∈ U) (hsym : ∀ x ∈ U, ∀ y ∈ nb x, x ∈ nb y) (hs : s ∈ U) (hB : s ∉ B) (r : Reach nb B s x) : Reach nb B x s := by
  induction r with
  | here => exact .here
  | step r h1 h2 ih => exact (Reach.here.step (hsym _ (r.inU hU hs) _ h1) (r.out hB)).trans ih
theorem Reach.map {nb nb' : Pt → List Pt} {B B' : List Pt} {s x : Pt} (f : Pt → Pt) (h1 : ∀ x y, y ∈ nb x → f y ∈ nb' (f x)) (h2 : ∀ y, y ∉ B → f y ∉ B') (r : Reach nb B s x) : Reach nb' B' (f s) (f x) := by
  induction r with
  | here => exact .here
  | step _ a b ih => exact ih.step (h1 _ _ a) (h2 _ b)
end K96
namespace K96
theorem eq_of_strict {α : Type} {lt : α → α → Prop} (irr : ∀ a, ¬ lt a a) (tr : ∀ a b c, lt a b → lt b c → lt a c) : ∀ (l m : List α), l.Pairwise lt → m.Pairwise lt → (∀ x, x ∈ l ↔ x ∈ m) → l = m
  | [], [], _, _, _ => rfl
  | [], b :: m, _, _, h => absurd ((h b).mpr (by simp)) (by simp)
  | a :: l, [], _, _, h => absurd ((h a).mp (by simp)) (by simp)
  | a :: l, b :: m, hl, hm, h => by
    have l1 := List.pairwise_cons.mp hl
    have m1 := List.pairwise_cons.mp hm
    have e : a = b := by
      rcases List.mem_cons.mp ((h a).mp (by simp)) with q | q
      · exact q
      · rcases List.mem_cons.mp ((h b).mpr (by simp)) with r | r
        · exact r.symm
        · exact absurd (tr _ _ _ (l1.1 b r) (m1.1 a q)) (irr a)
    subst e
    rw [eq_of_strict irr tr l m l1.2 m1.2 fun x => ?_]
    constructor
    · intro hx
      rcases List.mem_cons.mp ((h x).mp (by simp [hx])) with q | q
      · exact absurd (q ▸ l1.1 x hx) (irr _)
      · exact q
    · intro hx
      rcases List.mem_cons.mp ((h x).mpr (by simp [hx])) with q | q
      · exact absurd (q ▸ m1.1 x hx) (irr _)
      · exact q
end K96

namespace K96
open PP
abbrev P2 := Int × Int
def inB (h w : Nat) (p : P2) : Bool := (decide (0 ≤ p.1) && decide (p.1 ≤ (h : Int) - 1)) && (decide (0 ≤ p.2) && decide (p.2 ≤ (w : Int) - 1))
def chr (rows : List (List Nat)) (p : P2) : Nat := (rows.getD p.1.toNat []).getD p.2.toNat 0
def opn (rows : List (List Nat)) (h w : Nat) (p : P2) : Bool := inB h w p && decide (chr rows p = 46)
theorem inB_iff {h w : Nat} {p : P2} : inB h w p = true ↔ (0 ≤ p.1 ∧ p.1 < h) ∧ (0 ≤ p.2 ∧ p.2 < w) := by
  unfold inB
  simp only [Bool.and_eq_true, decide_eq_true_eq]
  omega
def steps4 : List P2 := [(-1, 0), (0, -1), (0, 1), (1, 0)]
def plus (c s : P2) : P2 := (c.1 + s.1, c.2 + s.2)
def nbs (rows : List (List Nat)) (h w : Nat) (c : P2) : List P2 := (steps4.map (plus c)).filter (opn rows h w)
def rowCells (rows : List (List Nat)) (w : Nat) (r : Nat) : List P2 := ((List.range w).filter fun k : Nat => decide (chr rows ((r : Int), (k : Int)) = 46)).map fun k : Nat => ((r : Int), (k : Int))
def cellsOf (rows : List (List Nat)) (h w : Nat) : List P2 := (List.range h).flatMap (rowCells rows w)
theorem rowCells_len (rows : List (List Nat)) (w r : Nat) : (rowCells rows w r).length ≤ w := by
  unfold rowCells
  rw [List.length_map]
  exact Nat.le_trans (List.length_filter_le _ _) (by simp)
/-! ### order -/
def ltP (a b : P2) : Prop := a.1 < b.1 ∨ (a.1 = b.1 ∧ a.2 < b.2)
def ltH (a b : P2 × Int) : Prop := ltP a.1 b.1 ∨ (a.1 = b.1 ∧ a.2 < b.2)
instance (a b : P2) : Decidable (ltP a b) := by unfold ltP; infer_instance
theorem ltP_irr (a : P2) : ¬ ltP a a := by unfold ltP; omega
theorem ltP_tr (a b c : P2) : ltP a b → ltP b c → ltP a c := by unfold ltP; omega
theorem ltH_irr (a : P2 × Int) : ¬ ltH a a := by unfold ltH ltP; omega
theorem ltH_tr (a b c : P2 × Int) : ltH a b → ltH b c → ltH a c := by
  rintro (h | ⟨h1, h2⟩) (k | ⟨k1, k2⟩)
  · exact .inl (ltP_tr _ _ _ h k)
  · exact .inl (k1 ▸ h)
  · exact .inl (h1 ▸ k)
  · exact .inr ⟨h1.trans k1, by omega⟩
theorem leP_tot (a b : P2) : (leP a b || leP b a) = true := by unfold leP; simp only [Bool.or_eq_true, decide_eq_true_eq]; omega
theorem leP_tr (a b c : P2) : leP a b = true → leP b c = true → leP a c = true := by unfold leP; simp only [decide_eq_true_eq]; omega
theorem leP_lt {a b : P2} (h : leP a b = true) (n : a ≠ b) : ltP a b := by
  unfold leP at h
  simp only [decide_eq_true_eq] at h
  unfold ltP
  by_cases e : a.1 = b.1
  · by_cases f : a.2 = b.2
    · exact absurd (Prod.ext e f) n
    · omega
  · omega
theorem lt_leP {a b : P2} (h : ltP a b) : leP a b = true := by
  unfold ltP at h
  unfold leP
  simp only [decide_eq_true_eq]
  omega
theorem leH_iff (a b : P2 × Int) : leH a b = true ↔ ltH a b ∨ a = b := by
  unfold leH
  by_cases e : a.1 = b.1
  · rw [if_pos e]
    simp only [decide_eq_true_eq]
    constructor
    · intro h
      by_cases f : a.2 = b.2
      · exact .inr (Prod.ext e f)
      · exact .inl (.inr ⟨e, by omega⟩)
    · rintro (h | h)
      · rcases h with h | h
        · rw [e] at h; exact absurd h (ltP_irr _)
        · omega
      · rw [h]; exact Int.le_refl _
  · rw [if_neg e]
    constructor
    · intro h; exact .inl (.inl (leP_lt h e))
    · rintro (h | h)
      · rcases h with h | h
        · exact lt_leP h
        · exact absurd h.1 e
      · exact absurd (by rw [h]) e
theorem ltH_con (a b : P2 × Int) : ltH a b ∨ a = b ∨ ltH b a := by
  by_cases e : a.1 = b.1
  · by_cases f : a.2 = b.2
    · exact .inr (.inl (Prod.ext e f))
    · by_cases g : a.2 < b.2
      · exact .inl (.inr ⟨e, g⟩)
      · exact .inr (.inr (.inr ⟨e.symm, by omega⟩))
  · have := leP_tot a.1 b.1
    rw [Bool.or_eq_true] at this
    rcases this with h | h
    · exact .inl (.inl (leP_lt h e))
    · exact .inr (.inr (.inl (leP_lt h (Ne.symm e))))
theorem leH_tot (a b : P2 × Int) : (leH a b || leH b a) = true := by
  rw [Bool.or_eq_true, leH_iff, leH_iff]
  rcases ltH_con a b with h | h | h
  · exact .inl (.inl h)
  · exact .inl (.inr h)
  · exact .inr (.inl h)
theorem leH_tr (a b c : P2 × Int) : leH a b = true → leH b c = true → leH a c = true := by
  rw [leH_iff, leH_iff, leH_iff]
  rintro (h | rfl) (k | rfl)
  · exact .inl (ltH_tr _ _ _ h k)
  · exact .inl h
  · exact .inl k
  · exact .inr rfl
abbrev Asc (l : List P2) : Prop := l.Pairwise ltP
abbrev AscH (l : List (P2 × Int)) : Prop := l.Pairwise ltH
abbrev srt (l : List P2) : List P2 := l.mergeSort leP
abbrev srtH (l : List (P2 × Int)) : List (P2 × Int) := l.mergeSort leH
theorem srt_mem {l : List P2} {x : P2} : x ∈ srt l ↔ x ∈ l := List.mem_mergeSort
theorem srtH_mem {l : List (P2 × Int)} {x : P2 × Int} : x ∈ srtH l ↔ x ∈ l := List.mem_mergeSort
theorem srt_asc {l : List P2} (h : l.Nodup) : Asc (srt l) := by
  have s : (srt l).Pairwise fun a b => leP a b = true := List.pairwise_mergeSort leP_tr leP_tot l
  have n : (srt l).Pairwise fun a b => a ≠ b := ((List.mergeSort_perm l leP).nodup_iff).mpr h
  exact (s.and n).imp fun ⟨a, b⟩ => leP_lt a b
theorem srtH_asc {l : List (P2 × Int)} (h : l.Nodup) : AscH (srtH l) := by
  have s : (srtH l).Pairwise fun a b => leH a b = true := List.pairwise_mergeSort leH_tr leH_tot l
  have n : (srtH l).Pairwise fun a b => a ≠ b := ((List.mergeSort_perm l leH).nodup_iff).mpr h
  exact (s.and n).imp fun ⟨a, b⟩ => ((leH_iff _ _).mp a).resolve_right b
theorem srt_len (l : List P2) : (srt l).length = l.length := List.length_mergeSort l
theorem asc_eq {l m : List P2} (a : Asc l) (b : Asc m) (h : ∀ x, x ∈ l ↔ x ∈ m) : l = m := eq_of_strict ltP_irr ltP_tr l m a b h
theorem ascH_eq {l m : List (P2 × Int)} (a : AscH l) (b : AscH m) (h : ∀ x, x ∈ l ↔ x ∈ m) : l = m := eq_of_strict ltH_irr ltH_tr l m a b h
theorem asc_nd {l : List P2} (h : Asc l) : l.Nodup := List.Pairwise.imp (fun {x y} (a : ltP x y) (e : x = y) => ltP_irr y (by rw [e] at a; exact a)) h
theorem ascH_nd {l : List (P2 × Int)} (h : AscH l) : l.Nodup := List.Pairwise.imp (fun {x y} (a : ltH x y) (e : x = y) => ltH_irr y (by rw [e] at a; exact a)) h
/-! ### cells -/
theorem mem_nbs {rows : List (List Nat)} {h w : Nat} {x y : P2} : y ∈ nbs rows h w x ↔ opn rows h w y = true ∧ ∃ s ∈ steps4, plus x s = y := by
  unfold nbs
  rw [List.mem_filter, List.mem_map]
  exact And.comm
theorem nbs_opn {rows : List (List Nat)} {h w : Nat} {x y : P2} (m : y ∈ nbs rows h w x) : opn rows h w y = true := (mem_nbs.mp m).1
theorem nbs_sym {rows : List (List Nat)} {h w : Nat} {x y : P2} (o : opn rows h w x = true) (m : y ∈ nbs rows h w x) : x ∈ nbs rows h w y := by
  obtain ⟨_, s, hs, rfl⟩ := mem_nbs.mp m
  refine mem_nbs.mpr ⟨o, (-s.1, -s.2), ?_, ?_⟩
  · unfold steps4 at hs ⊢
    simp only [List.mem_cons, List.not_mem_nil, or_false] at hs
    rcases hs with rfl | rfl | rfl | rfl <;> simp
  · unfold plus
    exact Prod.ext (by show x.1 + s.1 + -s.1 = x.1; omega) (by show x.2 + s.2 + -s.2 = x.2; omega)
theorem opn_in {rows : List (List Nat)} {h w : Nat} {p : P2} (o : opn rows h w p = true) : ((0 ≤ p.1 ∧ p.1 < h) ∧ (0 ≤ p.2 ∧ p.2 < w)) ∧ chr rows p = 46 := by
  unfold opn at o
  rw [Bool.and_eq_true, inB_iff, decide_eq_true_eq] at o
  exact o
theorem mem_cells {rows : List (List Nat)} {h w : Nat} {p : P2} : p ∈ cellsOf rows h w ↔ opn rows h w p = true := by
  unfold cellsOf rowCells opn
  rw [List.mem_flatMap, Bool.and_eq_true, inB_iff, decide_eq_true_eq]
  constructor
  · rintro ⟨r, hr, hp⟩
    obtain ⟨k, hk, rfl⟩ := List.mem_map.mp hp
    obtain ⟨hk, hc⟩ := List.mem_filter.mp hk
    have := List.mem_range.mp hr
    have := List.mem_range.mp hk
    exact ⟨⟨⟨by show (0 : Int) ≤ (r : Int); omega, by show (r : Int) < h; omega⟩, by show (0 : Int) ≤ (k : Int); omega, by show (k : Int) < w; omega⟩, of_decide_eq_true hc⟩
  · rintro ⟨⟨⟨a, b⟩, c, d⟩, e⟩
    have e1 : ((p.1.toNat : Int), (p.2.toNat : Int)) = p := Prod.ext (by show (p.1.toNat : Int) = p.1; omega) (by show (p.2.toNat : Int) = p.2; omega)
    refine ⟨p.1.toNat, List.mem_range.mpr (by omega), List.mem_map.mpr ⟨p.2.toNat, List.mem_filter.mpr ⟨List.mem_range.mpr (by omega), ?_⟩, e1⟩⟩
    rw [e1]
    exact decide_eq_true e
theorem nd_range (n : Nat) : (List.range n).Nodup := List.nodup_range
theorem asc_cells (rows : List (List Nat)) (h w : Nat) : Asc (cellsOf rows h w) := by
  unfold cellsOf
  have key : ∀ l : List Nat, l.Pairwise (· < ·) → Asc (l.flatMap (rowCells rows w)) := by
    intro l
    induction l with
    | nil => intro _; exact List.Pairwise.nil
    | cons r l ih =>
      intro hl
      obtain ⟨h1, h2⟩ := List.pairwise_cons.mp hl
      rw [List.flatMap_cons]
      refine List.pairwise_append.mpr ⟨?_, ih h2, fun a ha b hb => ?_⟩
      · unfold rowCells
        refine List.Pairwise.map _ (R := fun a b : Nat => a < b) (fun a b hab => ?_) (List.Pairwise.filter _ List.pairwise_lt_range)
        exact .inr ⟨rfl, by show (a : Int) < b; omega⟩
      · unfold rowCells at ha
        obtain ⟨k, _, rfl⟩ := List.mem_map.mp ha
        obtain ⟨r', hr', hb⟩ := List.mem_flatMap.mp hb
        unfold rowCells at hb
        obtain ⟨k', _, rfl⟩ := List.mem_map.mp hb
        have := h1 r' hr'
        exact .inl (by show (r : Int) < r'; omega)
  exact key _ List.pairwise_lt_range
theorem len_flat {α β : Type} (f : α → List β) (n : Nat) : ∀ l : List α, (∀ a ∈ l, (f a).length ≤ n) → (l.flatMap f).length ≤ l.length * n
  | [], _ => by simp
  | a :: l, h => by
    rw [List.flatMap_cons, List.length_append, List.length_cons, Nat.succ_mul]
    have := len_flat f n l fun x hx => h x (by simp [hx])
    have := h a (by simp)
    omega
theorem cells_len (rows : List (List Nat)) (h w : Nat) : (cellsOf rows h w).length ≤ h * w := by
  have := len_flat (rowCells rows w) w (List.range h) fun r _ => rowCells_len rows w r
  rw [List.length_range] at this
  exact this
/-! ### headings -/
def go (k : Nat) : P2 := [(-1, 0), (0, 1), (1, 0), (0, -1)].getD k (0, 0)
def stp (p : P2) (k : Nat) : P2 := plus p (go k)
def back (k : Nat) : Nat := (k + 2) % 4
def flp (k : Nat) : Nat := [0, 3, 2, 1].getD k 0
def okP (rows : List (List Nat)) (h w : Nat) (B F : List P2) (b : P2) (k : Nat) : Bool := opn rows h w (stp b k) && (!decide (stp b k ∈ B) && decide (stp b (back k) ∈ F))
def psh (rows : List (List Nat)) (h w : Nat) (B F : List P2) : List (P2 × Int) := B.flatMap fun b => ((List.range 4).filter (okP rows h w B F b)).map fun k : Nat => (b, (k : Int))
theorem mem_psh {rows : List (List Nat)} {h w : Nat} {B F : List P2} {x : P2 × Int} : x ∈ psh rows h w B F ↔ x.1 ∈ B ∧ ∃ k : Nat, k < 4 ∧ x.2 = k ∧ okP rows h w B F x.1 k = true := by
  unfold psh
  rw [List.mem_flatMap]
  constructor
  · rintro ⟨b, hb, hx⟩
    obtain ⟨k, hk, rfl⟩ := List.mem_map.mp hx
    obtain ⟨h1, h2⟩ := List.mem_filter.mp hk
    exact ⟨hb, k, List.mem_range.mp h1, rfl, h2⟩
  · rintro ⟨hb, k, h1, h2, h3⟩
    exact ⟨x.1, hb, List.mem_map.mpr ⟨k, List.mem_filter.mpr ⟨List.mem_range.mpr h1, h3⟩, Prod.ext rfl h2.symm⟩⟩
theorem psh_asc {rows : List (List Nat)} {h w : Nat} {B F : List P2} (a : Asc B) : AscH (psh rows h w B F) := by
  unfold psh
  have key : ∀ l : List P2, Asc l → AscH (l.flatMap fun b => ((List.range 4).filter (okP rows h w B F b)).map fun k : Nat => (b, (k : Int))) := by
    intro l
    induction l with
    | nil => intro _; exact List.Pairwise.nil
    | cons r l ih =>
      intro hl
      obtain ⟨h1, h2⟩ := List.pairwise_cons.mp hl
      rw [List.flatMap_cons]
      refine List.pairwise_append.mpr ⟨?_, ih h2, fun a ha b hb => ?_⟩
      · refine List.Pairwise.map _ (R := fun a b : Nat => a < b) (fun a b hab => ?_) (List.Pairwise.filter _ List.pairwise_lt_range)
        exact .inr ⟨rfl, by show (a : Int) < b; omega⟩
      · obtain ⟨k, _, rfl⟩ := List.mem_map.mp ha
        obtain ⟨r', hr', hb⟩ := List.mem_flatMap.mp hb
        obtain ⟨k', _, rfl⟩ := List.mem_map.mp hb
        exact .inl (h1 r' hr')
  exact key _ a
theorem psh_congr {rows : List (List Nat)} {h w : Nat} {B F G : List P2} (e : ∀ x, x ∈ F ↔ x ∈ G) : psh rows h w B F = psh rows h w B G := by
  unfold psh okP
  simp only [e]
/-! ### mirrored -/
def mir (w : Nat) (p : P2) : P2 := (p.1, (w : Int) - 1 - p.2)
theorem mir_mir (w : Nat) (p : P2) : mir w (mir w p) = p := Prod.ext rfl (by show (w : Int) - 1 - (w - 1 - p.2) = p.2; omega)
theorem mir_inj {w : Nat} {p q : P2} (h : mir w p = mir w q) : p = q := by rw [← mir_mir w p, h, mir_mir]
theorem inB_mir (h w : Nat) (p : P2) : inB h w (mir w p) = inB h w p := by
  rw [Bool.eq_iff_iff, inB_iff, inB_iff]
  unfold mir
  simp only []
  omega
theorem opn_mir {rows : List (List Nat)} {h w : Nat} (hl : rows.length = h) (hw : ∀ l ∈ rows, l.length = w) (p : P2) : opn (rows.map List.reverse) h w (mir w p) = opn rows h w p := by
  unfold opn
  rw [inB_mir]
  cases e : inB h w p with
  | false => rfl
  | true =>
    obtain ⟨⟨a, b⟩, c, d⟩ := inB_iff.mp e
    have hr : p.1.toNat < rows.length := by omega
    have hw' := hw rows[p.1.toNat] (List.getElem_mem hr)
    have : chr (rows.map List.reverse) (mir w p) = chr rows p := by
      unfold chr mir
      simp only []
      rw [List.getD_eq_getElem?_getD, List.getD_eq_getElem?_getD, List.getD_eq_getElem?_getD, List.getD_eq_getElem?_getD, List.getElem?_map, List.getElem?_eq_getElem hr]
      simp only [Option.map_some, Option.getD_some]
      rw [List.getElem?_reverse (by omega), show rows[p.1.toNat].length - 1 - ((w : Int) - 1 - p.2).toNat = p.2.toNat by omega]
    rw [this]
theorem go_flp (w : Nat) (p : P2) (k : Nat) (hk : k < 4) : mir w (stp p k) = stp (mir w p) (flp k) := by
  unfold stp plus mir
  have : k = 0 ∨ k = 1 ∨ k = 2 ∨ k = 3 := by omega
  rcases this with rfl | rfl | rfl | rfl <;> refine Prod.ext ?_ ?_ <;> simp [go, flp] <;> omega
theorem flp_lt (k : Nat) (hk : k < 4) : flp k < 4 := by
  have : k = 0 ∨ k = 1 ∨ k = 2 ∨ k = 3 := by omega
  rcases this with rfl | rfl | rfl | rfl <;> decide
theorem flp_flp (k : Nat) (hk : k < 4) : flp (flp k) = k := by
  have : k = 0 ∨ k = 1 ∨ k = 2 ∨ k = 3 := by omega
  rcases this with rfl | rfl | rfl | rfl <;> decide
theorem back_lt (k : Nat) : back k < 4 := Nat.mod_lt _ (by decide)
theorem flp_back (k : Nat) (hk : k < 4) : flp (back k) = back (flp k) := by
  have : k = 0 ∨ k = 1 ∨ k = 2 ∨ k = 3 := by omega
  rcases this with rfl | rfl | rfl | rfl <;> decide
theorem mir_steps {s : P2} (hs : s ∈ steps4) : (s.1, -s.2) ∈ steps4 := by
  unfold steps4 at hs ⊢
  simp only [List.mem_cons, List.not_mem_nil, or_false] at hs
  rcases hs with rfl | rfl | rfl | rfl <;> simp
theorem nbs_mir {rows : List (List Nat)} {h w : Nat} (hl : rows.length = h) (hw : ∀ l ∈ rows, l.length = w) {x y : P2} (m : y ∈ nbs rows h w x) : mir w y ∈ nbs (rows.map List.reverse) h w (mir w x) := by
  obtain ⟨o, s, hs, rfl⟩ := mem_nbs.mp m
  refine mem_nbs.mpr ⟨(opn_mir hl hw _).trans o, _, mir_steps hs, ?_⟩
  unfold plus mir
  exact Prod.ext rfl (by show (w : Int) - 1 - x.2 + -s.2 = w - 1 - (x.2 + s.2); omega)
theorem rev_rev (rows : List (List Nat)) : (rows.map List.reverse).map List.reverse = rows := by
  rw [List.map_map]
  conv => rhs; rw [← List.map_id rows]
  exact List.map_congr_left fun l _ => List.reverse_reverse l
theorem nbs_mir2 {rows : List (List Nat)} {h w : Nat} (hl : rows.length = h) (hw : ∀ l ∈ rows, l.length = w) {x y : P2} (m : y ∈ nbs (rows.map List.reverse) h w x) : mir w y ∈ nbs rows h w (mir w x) := by
  have := nbs_mir (rows := rows.map List.reverse) (h := h) (w := w) (by rw [List.length_map]; exact hl) (fun l hl => by
    obtain ⟨r, hr, rfl⟩ := List.mem_map.mp hl
    rw [List.length_reverse]; exact hw r hr) m
  rw [rev_rev] at this
  exact this
end K96

namespace K96
open PP
structure Good (rows : List (List Nat)) (h w : Nat) (c : P2) (B : List P2) (n : Nat) : Prop where
  oc : opn rows h w c = true
  asc : Asc B
  ob : ∀ b ∈ B, opn rows h w b = true
  nc : c ∉ B
  len : B.length = n
def fnd (rows : List (List Nat)) (h w : Nat) (c : P2) (B : List P2) : List P2 := (dfs (nbs rows h w) B 1000 ([c], [c])).getD []
section
variable {rows : List (List Nat)} {h w n : Nat} {c : P2} {B : List P2}
theorem nbsU : ∀ x ∈ cellsOf rows h w, ∀ y ∈ nbs rows h w x, y ∈ cellsOf rows h w := fun x _ y m => mem_cells.mpr (nbs_opn m)
theorem small (h1 : h ≤ 14) (w1 : w ≤ 14) : (cellsOf rows h w).length ≤ 196 := Nat.le_trans (cells_len rows h w) (Nat.mul_le_mul h1 w1)
theorem fnd_ok (h1 : h ≤ 14) (w1 : w ≤ 14) (oc : opn rows h w c = true) (nc : c ∉ B) : dfs (nbs rows h w) B 1000 ([c], [c]) = some (fnd rows h w c B) ∧ (fnd rows h w c B).Nodup ∧ (∀ x, x ∈ fnd rows h w c B ↔ Reach (nbs rows h w) B c x) ∧ (∀ x ∈ fnd rows h w c B, opn rows h w x = true) ∧ ∀ x ∈ fnd rows h w c B, x ∉ B := by
  have i : Inv (nbs rows h w) B (cellsOf rows h w) c (fun _ => False) [c] [c] := by
    refine ⟨by simp, fun x hx => ?_, fun x hx => ?_, by simp, fun x hx => hx, fun x hx => ?_, fun x hx hn => absurd hx hn⟩
    · rw [List.mem_singleton.mp hx]; exact mem_cells.mpr oc
    · rw [List.mem_singleton.mp hx]; exact nc
    · rw [List.mem_singleton.mp hx]; exact .here
  have sm := small (rows := rows) h1 w1
  obtain ⟨g, e, g1, g2, g3, g4⟩ := dfs_ok nbsU 1000 [c] [c] i (by simp; omega)
  have e2 : fnd rows h w c B = g := by unfold fnd; rw [e]; rfl
  rw [e2]
  exact ⟨e, g1, g2, fun x hx => mem_cells.mp (g3 x hx), g4⟩
theorem fnd_ne (h1 : h ≤ 14) (w1 : w ≤ 14) (oc : opn rows h w c = true) (nc : c ∉ B) : c ∈ fnd rows h w c B := ((fnd_ok h1 w1 oc nc).2.2.1 c).mpr .here
theorem fnd_len (h1 : h ≤ 14) (w1 : w ≤ 14) (oc : opn rows h w c = true) (nc : c ∉ B) : (fnd rows h w c B).length ≤ 196 := by
  obtain ⟨_, f1, _, f3, _⟩ := fnd_ok h1 w1 oc nc
  exact Nat.le_trans (nodup_len _ _ f1 fun x hx => mem_cells.mpr (f3 x hx)) (small h1 w1)
/-- another cell of the room has the same room -/
theorem fnd_same (h1 : h ≤ 14) (w1 : w ≤ 14) (oc : opn rows h w c = true) (nc : c ∉ B) {m : P2} (hm : m ∈ fnd rows h w c B) (x : P2) : x ∈ fnd rows h w c B ↔ x ∈ fnd rows h w m B := by
  obtain ⟨_, _, f2, f3, f4⟩ := fnd_ok h1 w1 oc nc
  obtain ⟨_, _, g2, _, _⟩ := fnd_ok h1 w1 (f3 m hm) (f4 m hm)
  have r := (f2 m).mp hm
  have r' : Reach (nbs rows h w) B m c := r.sym nbsU (fun x hx y hy => nbs_sym (mem_cells.mp hx) hy) (mem_cells.mpr oc) nc
  exact ⟨fun hx => (g2 x).mpr (r'.trans ((f2 x).mp hx)), fun hx => (f2 x).mpr (r.trans ((g2 x).mp hx))⟩
theorem Good.seat (g : Good rows h w c B n) (h1 : h ≤ 14) (w1 : w ≤ 14) {m : P2} (hm : m ∈ fnd rows h w c B) : Good rows h w m B n := by
  obtain ⟨_, _, f2, f3, f4⟩ := fnd_ok h1 w1 g.oc g.nc
  exact ⟨f3 m hm, g.asc, g.ob, f4 m hm, g.len⟩
/-- what a push makes -/
def mov (B : List P2) (b : P2) (k : Nat) : List P2 := srt (B.filter (fun x => !decide (x = b)) ++ [stp b k])
theorem go_ne (b : P2) (k : Nat) (hk : k < 4) : stp b k ≠ b := by
  intro e
  have e1 := congrArg Prod.fst e
  have e2 := congrArg Prod.snd e
  unfold stp plus at e1 e2
  have : k = 0 ∨ k = 1 ∨ k = 2 ∨ k = 3 := by omega
  rcases this with rfl | rfl | rfl | rfl <;> simp [go] at e1 e2 <;> omega
theorem len_filter_ne {B : List P2} (nd : B.Nodup) {b : P2} (hb : b ∈ B) : (B.filter (fun x => !decide (x = b))).length + 1 = B.length := by
  induction B with
  | nil => simp at hb
  | cons a l ih =>
    obtain ⟨n1, n2⟩ := List.nodup_cons.mp nd
    rw [List.filter_cons]
    by_cases e : a = b
    · subst e
      rw [if_neg (by simp), List.filter_eq_self.mpr fun x hx => by simp; exact fun z => n1 (z ▸ hx)]
      rfl
    · rw [if_pos (by simpa using e)]
      rcases List.mem_cons.mp hb with q | q
      · exact absurd q.symm e
      · have := ih n2 q
        simp only [List.length_cons]
        omega
theorem Good.push (g : Good rows h w c B n) {F : List P2} {b : P2} {k : Nat} (hb : b ∈ B) (hk : k < 4) (o : okP rows h w B F b k = true) : Good rows h w b (mov B b k) n := by
  unfold okP at o
  rw [Bool.and_eq_true, Bool.and_eq_true, Bool.not_eq_true', decide_eq_false_iff_not] at o
  obtain ⟨o1, o2, _⟩ := o
  have nd : (B.filter (fun x => !decide (x = b)) ++ [stp b k]).Nodup := List.nodup_append.mpr ⟨(asc_nd g.asc).sublist List.filter_sublist, by simp, fun x hx y hy => by
    rw [List.mem_singleton.mp hy]
    intro e
    exact o2 (e ▸ (List.mem_filter.mp hx).1)⟩
  refine ⟨g.ob b hb, srt_asc nd, fun x hx => ?_, fun hx => ?_, ?_⟩
  · rcases List.mem_append.mp (srt_mem.mp hx) with q | q
    · exact g.ob x (List.mem_filter.mp q).1
    · rw [List.mem_singleton.mp q]; exact o1
  · rcases List.mem_append.mp (srt_mem.mp hx) with q | q
    · have := (List.mem_filter.mp q).2
      simp at this
    · exact go_ne b k hk (List.mem_singleton.mp q).symm
  · unfold mov
    rw [srt_len, List.length_append, List.length_singleton, len_filter_ne (asc_nd g.asc) hb, g.len]
/-! ### the mirrored yard -/
def mirH (w : Nat) (x : P2 × Int) : P2 × Int := (mir w x.1, (flp x.2.toNat : Int))
theorem Good.mirror (g : Good rows h w c B n) (hl : rows.length = h) (hw : ∀ l ∈ rows, l.length = w) : Good (rows.map List.reverse) h w (mir w c) (srt (B.map (mir w))) n := by
  have nd : (B.map (mir w)).Nodup := List.Pairwise.map _ (fun a b (hab : a ≠ b) e => hab (mir_inj e)) (asc_nd g.asc)
  refine ⟨(opn_mir hl hw c).trans g.oc, srt_asc nd, fun b hb => ?_, fun hc => ?_, ?_⟩
  · obtain ⟨x, hx, rfl⟩ := List.mem_map.mp (srt_mem.mp hb)
    exact (opn_mir hl hw x).trans (g.ob x hx)
  · obtain ⟨x, hx, e⟩ := List.mem_map.mp (srt_mem.mp hc)
    exact g.nc (mir_inj e ▸ hx)
  · rw [srt_len, List.length_map, g.len]
theorem psh_mirror (g : Good rows h w c B n) (h1 : h ≤ 14) (w1 : w ≤ 14) (hl : rows.length = h) (hw : ∀ l ∈ rows, l.length = w) :
    psh (rows.map List.reverse) h w (srt (B.map (mir w))) (fnd (rows.map List.reverse) h w (mir w c) (srt (B.map (mir w)))) = srtH ((psh rows h w B (fnd rows h w c B)).map (mirH w)) := by
  have g' := g.mirror hl hw
  obtain ⟨_, _, f2, _, _⟩ := fnd_ok h1 w1 g.oc g.nc
  obtain ⟨_, _, k2, _, _⟩ := fnd_ok h1 w1 g'.oc g'.nc
  have memB : ∀ x, mir w x ∈ srt (B.map (mir w)) ↔ x ∈ B := fun x => by
    rw [srt_mem, List.mem_map]
    exact ⟨fun ⟨y, hy, e⟩ => mir_inj e ▸ hy, fun hx => ⟨x, hx, rfl⟩⟩
  have reach : ∀ x, mir w x ∈ fnd (rows.map List.reverse) h w (mir w c) (srt (B.map (mir w))) ↔ x ∈ fnd rows h w c B := fun x => by
    rw [k2, f2]
    constructor
    · intro r
      have := Reach.map (nb' := nbs rows h w) (B' := B) (mir w) (fun _ _ m => nbs_mir2 hl hw m) (fun y hy hB => hy ((mir_mir w y) ▸ (memB (mir w y)).mpr hB)) r
      rwa [mir_mir, mir_mir] at this
    · intro r
      exact Reach.map (mir w) (fun _ _ m => nbs_mir hl hw m) (fun y hy hB => hy ((memB y).mp hB)) r
  have ok : ∀ b k, k < 4 → okP (rows.map List.reverse) h w (srt (B.map (mir w))) (fnd (rows.map List.reverse) h w (mir w c) (srt (B.map (mir w)))) (mir w b) (flp k) = okP rows h w B (fnd rows h w c B) b k := fun b k hk => by
    unfold okP
    rw [← go_flp w b k hk, ← flp_back k hk, ← go_flp w b (back k) (back_lt k), opn_mir hl hw]
    simp only [memB, reach]
  have nd : ((psh rows h w B (fnd rows h w c B)).map (mirH w)).Nodup := by
    have base := ascH_nd (psh_asc (rows := rows) (h := h) (w := w) (F := fnd rows h w c B) g.asc)
    refine List.pairwise_map.mpr (List.Pairwise.imp_of_mem (fun {a b} ha hb hab e => hab ?_) base)
    obtain ⟨_, ka, la, ea, _⟩ := mem_psh.mp ha
    obtain ⟨_, kb, lb, eb, _⟩ := mem_psh.mp hb
    have e1 : mir w a.1 = mir w b.1 := congrArg Prod.fst e
    have e2 : (flp a.2.toNat : Int) = (flp b.2.toNat : Int) := congrArg Prod.snd e
    rw [ea, eb] at e2
    rw [Int.toNat_natCast, Int.toNat_natCast] at e2
    have e3 : flp ka = flp kb := Int.ofNat.inj e2
    have e4 : ka = kb := by rw [← flp_flp ka la, e3, flp_flp kb lb]
    exact Prod.ext (mir_inj e1) (by rw [ea, eb, e4])
  refine ascH_eq (psh_asc g'.asc) (srtH_asc nd) fun x => ?_
  rw [srtH_mem, List.mem_map, mem_psh]
  constructor
  · rintro ⟨hB, k, hk, e, o⟩
    refine ⟨(mir w x.1, (flp k : Int)), mem_psh.mpr ⟨?_, flp k, flp_lt k hk, rfl, ?_⟩, ?_⟩
    · exact (memB _).mp (by rw [mir_mir]; exact hB)
    · rw [← ok _ _ (flp_lt k hk), flp_flp k hk]
      show okP _ h w _ _ (mir w (mir w x.1)) k = true
      rw [mir_mir]
      exact o
    · unfold mirH
      refine Prod.ext (mir_mir w x.1) ?_
      show (flp ((flp k : Int)).toNat : Int) = x.2
      rw [Int.toNat_natCast, flp_flp k hk, e]
  · rintro ⟨y, hy, rfl⟩
    obtain ⟨hB, k, hk, e, o⟩ := mem_psh.mp hy
    refine ⟨(memB _).mpr hB, flp k, flp_lt k hk, ?_, (ok _ _ hk).trans o⟩
    show (flp y.2.toNat : Int) = _
    rw [e, Int.toNat_natCast]
/-- a seated state has the same pushes -/
theorem psh_seat (g : Good rows h w c B n) (h1 : h ≤ 14) (w1 : w ≤ 14) {m : P2} (hm : m ∈ fnd rows h w c B) : psh rows h w B (fnd rows h w m B) = psh rows h w B (fnd rows h w c B) :=
  psh_congr fun x => (fnd_same h1 w1 g.oc g.nc hm x).symm
end
end K96

/-! the evaluation lemmas of PPEv, PPSim for the wider operators, under the same names -/
namespace K96
open PySem L2 PP
open PP.Res (ok exc bad)
section
variable {ρ : Sls} {f g : Sls → Res D} {x y : Int}
theorem i_lenL {l : List D} (w1 : f ρ = ok (.lst l)) : mBI dLenX [f] ρ = ok (.int l.length) := bi1 w1 (dLenX_l l)
theorem i_lenT {l : List D} (w1 : f ρ = ok (.tup l)) : mBI dLenX [f] ρ = ok (.int l.length) := bi1 w1 (dLenX_t l)
theorem i_lenS {l : List Nat} (w1 : f ρ = ok (tx l)) (h : l.length ≤ 1000000 := by omega) : mBI dLenX [f] ρ = ok (.int l.length) := bi1 w1 (show dLen [tx l] = _ from dLen_tx h)
theorem dIx_tx {l : List Nat} {i : Int} (h : l.length ≤ 1000000) (h0 : 0 ≤ i) : dIxX (tx l) (.int i) = (l[i.toNat]?).map sg := PP.dIx_tx h h0
theorem dIx_tup {l : List D} {i : Int} (h0 : 0 ≤ i) : dIxX (.tup l) (.int i) = l[i.toNat]? := PP.dIx_tup h0
theorem dIx_lst {l : List D} {i : Int} (h0 : 0 ≤ i) : dIxX (.lst l) (.int i) = l[i.toNat]? := PP.dIx_lst h0
theorem t_lt (w1 : f ρ = ok (.int x)) (w2 : g ρ = ok (.int y)) : mT (mOp2 dLtX f g) ρ = ok (decide (x < y)) := t_ev (op2_ev w1 w2 (dLtX_i x y))
theorem t_le (w1 : f ρ = ok (.int x)) (w2 : g ρ = ok (.int y)) : mT (mOp2 dLeX f g) ρ = ok (decide (x ≤ y)) := t_ev (op2_ev w1 w2 (dLeX_i x y))
theorem t_gt (w1 : f ρ = ok (.int x)) (w2 : g ρ = ok (.int y)) : mT (mOp2 dGtX f g) ρ = ok (decide (y < x)) := t_ev (op2_ev w1 w2 (dGtX_i x y))
theorem t_ge (w1 : f ρ = ok (.int x)) (w2 : g ρ = ok (.int y)) : mT (mOp2 dGeX f g) ρ = ok (decide (y ≤ x)) := t_ev (op2_ev w1 w2 (dGeX_i x y))
end
end K96

namespace K96
open PySem L2 PP
open PP.Res (ok exc bad)
theorem whole_int (i a b : Int) : F_is_whole [.int i, .int a, .int b] = ok (.bl (decide (a ≤ i) && decide (i ≤ b))) := by
  refine runF_rt (ret_ev ?_)
  refine (andV_ev (a := true) (bi_ev (args_ev rfl (args_ev rfl args0)) rfl) fun _ => andV_ev (a := true) (notV_ev (a := false) (bi_ev (args_ev rfl (args_ev rfl args0)) rfl)) fun _ => chain_ev (a := decide (a ≤ i)) (b := decide (i ≤ b)) rfl rfl rfl fun _ => ⟨rfl, rfl⟩).trans ?_
  rfl
theorem whole_bl (i : Bool) (a b : Int) : F_is_whole [.bl i, .int a, .int b] = ok (.bl false) := by
  refine runF_rt (ret_ev ?_)
  refine (andV_ev (a := true) (bi_ev (args_ev rfl (args_ev rfl args0)) rfl) fun _ => andV_ev (a := false) (b := false) (notV_ev (a := true) (bi_ev (args_ev rfl (args_ev rfl args0)) rfl)) fun h => nomatch h).trans rfl
abbrev mz (rows : List (List Nat)) (h w : Nat) : D := .obj "Maze" [("rows", rowsD rows), ("height", .int h), ("width", .int w)]
theorem all_true {α : Type} {l : List α} {p : α → Bool} (h : ∀ a ∈ l, p a = true) : l.all p = true := List.all_eq_true.mpr h
theorem look_others (c : Nat) (h : c = 35 ∨ c = 46) : (tb_OTHERS.lookup (mkS [c])).isSome = true := by
  rcases h with rfl | rfl <;> decide +kernel
theorem chain_le3 {ρ : Sls} {f : Sls → Res D} {n : Nat} (e : f ρ = ok (.int n)) (h1 : 1 ≤ n) (h2 : n ≤ 14) : mT (mChain dLeX dLeX (mC (.int 1)) f (mC (.int 14))) ρ = ok true := by
  refine t_ev ((chain_ev (a := decide ((1 : Int) ≤ n)) (b := decide ((n : Int) ≤ 14)) rfl e rfl fun _ => ⟨rfl, rfl⟩).trans ?_)
  rw [decide_eq_true (by omega), decide_eq_true (by omega)]
  rfl
theorem items_tup (l : List D) : items (.tup l) = some l := rfl
theorem first_row {rows : List (List Nat)} {h w : Nat} (R : OkRows rows h w) : ∃ a r, rows = a :: r ∧ a.length = w := by
  cases rows with
  | nil => have := R.len; have := R.h1; simp at *; omega
  | cons a r => exact ⟨a, r, rfl, R.wid a (by simp)⟩
theorem maze_ok {rows : List (List Nat)} {h w : Nat} (R : OkRows rows h w) : F_Maze [rowsD rows] = ok (mz rows h w) := by
  obtain ⟨a0, rr, hrows, ha0⟩ := first_row R
  have key : ∀ a, I_Maze a [rowsD rows] = ok (mz rows h w) := fun a => by
    let ρ : Sls := [.me a (.obj "Maze" []), .fz (rowsD rows), .no, .no]
    have v1 : mVar 1 ρ = ok (rowsD rows) := rfl
    have hlen : (rowsL rows).length = h := by rw [List.length_map]; exact R.len
    have ln : mBI dLenX [mVar 1] ρ = ok (.int h) := by rw [← hlen]; exact i_lenT v1
    have h14 := R.h2
    have w14 := R.w2
    have ix : mOp2 dIxX (mVar 1) (mC (.int 0)) ρ = ok (tx a0) := op2_ev v1 rfl (by rw [dIx_tup (by decide), hrows]; rfl)
    have lw : mBI dLenX [mOp2 dIxX (mVar 1) (mC (.int 0))] ρ = ok (.int w) := by rw [← ha0]; exact i_lenS ix (by omega)
    have c1 : (mOr (mNot (mT (mBI dIsi [(mVar 1), (mC (.ty "tuple"))]))) (mOr (mNot (mT (mChain dLeX dLeX (mC (.int 1)) (mBI dLenX [(mVar 1)]) (mC (.int 14))))) (mNot (mT (mBI dAll [(mLc (mIt (mVar 1)) [2] (tgName 2) mYes (mBI dIsi [(mVar 2), (mC (.ty "str"))]))]))))) ρ = ok false := by
      refine (or_ev (a := false) (not_ev (a := true) (t_ev (bi_ev (args_ev v1 (args_ev rfl args0)) rfl))) fun _ => or_ev (a := false) (not_ev (a := true) (chain_le3 ln R.h1 R.h2)) fun _ => not_ev (a := true) (t_ev ?_)).trans rfl
      refine bi1 (lc_ev0 (as := rows) (emb := tx) (g := fun _ => D.bl true) (it_ev v1 rfl) fun l hl => ⟨_, rfl, bi_ev (args_ev rfl (args_ev rfl args0)) rfl⟩) ?_
      rw [dAll_map (fun _ => true), all_true fun _ _ => rfl]
    have c2 : (mOr (mNot (mT (mChain dLeX dLeX (mC (.int 1)) (mBI dLenX [(mOp2 dIxX (mVar 1) (mC (.int 0)))]) (mC (.int 14))))) (mNot (mT (mBI dAll [(mLc (mIt (mVar 1)) [2] (tgName 2) mYes (mOp2 dEq (mBI dLenX [(mVar 2)]) (mBI dLenX [(mOp2 dIxX (mVar 1) (mC (.int 0)))])))])))) ρ = ok false := by
      refine (or_ev (a := false) (not_ev (a := true) (chain_le3 lw R.w1 R.w2)) fun _ => not_ev (a := true) (t_ev ?_)).trans rfl
      refine bi1 (lc_ev0 (as := rows) (emb := tx) (g := fun _ => D.bl true) (it_ev v1 rfl) fun l hl => ⟨_, rfl, ?_⟩) ?_
      · have q := R.wid l hl
        refine op2_ev (i_lenS (l := l) rfl (by omega)) (i_lenS (l := a0) (op2_ev v1 rfl (by rw [dIx_tup (by decide), hrows]; rfl)) (by omega)) ?_
        rw [dEq_i, q, ha0, decide_eq_true rfl]
      · rw [dAll_map (fun _ => true), all_true fun _ _ => rfl]
    have c3 : (mNot (mT (mBI dAll [(mLc (mIt (mVar 1)) [2] (tgName 2) mYes (mOp2 dEq (mBI dLenX [(mLc (mIt (mVar 2)) [3] (tgName 3) (mT (mKNotIn tb_OTHERS (mVar 3))) (mVar 3))]) (mC (.int 0))))]))) ρ = ok false := by
      refine (not_ev (a := true) (t_ev ?_)).trans rfl
      refine bi1 (lc_ev0 (as := rows) (emb := tx) (g := fun _ => D.bl true) (it_ev v1 rfl) fun l hl => ⟨_, rfl, ?_⟩) ?_
      · have q := R.wid l hl
        refine op2_ev (i_lenL (lc_ev (as := l) (emb := sg) (p := fun _ => false) (g := sg) (it_ev rfl (items_tx (by omega))) fun c hc => ⟨_, rfl, t_ev ?_, fun h => nomatch h⟩)) rfl ?_
        · show ok (D.bl (!(tb_OTHERS.lookup (mkS [c])).isSome)) = _
          rw [look_others c (R.sgn l hl c hc)]
          rfl
        · have e : l.filter (fun _ => false) = [] := List.filter_eq_nil_iff.mpr fun _ _ => by simp
          rw [e]
          rfl
      · rw [dAll_map (fun _ => true), all_true fun _ _ => rfl]
    have f1 : sFldS 0 "Maze" "rows" (mVar 1) ρ = .nx [.me a (.obj "Maze" [("rows", rowsD rows)]), .fz (rowsD rows), .no, .no] := rfl
    have f2 : sFldS 0 "Maze" "height" (mBI dLenX [(mVar 1)]) [.me a (.obj "Maze" [("rows", rowsD rows)]), .fz (rowsD rows), .no, .no] = .nx [.me a (.obj "Maze" [("rows", rowsD rows), ("height", .int h)]), .fz (rowsD rows), .no, .no] := by
      have : mBI dLenX [mVar 1] [.me a (.obj "Maze" [("rows", rowsD rows)]), .fz (rowsD rows), .no, .no] = ok (.int h) := by rw [← hlen]; exact i_lenT rfl
      simp only [sFldS, List.getElem?_cons_zero, this, thenF_ok]
      rfl
    have f3 : sFldS 0 "Maze" "width" (mBI dLenX [(mOp2 dIxX (mVar 1) (mC (.int 0)))]) [.me a (.obj "Maze" [("rows", rowsD rows), ("height", .int h)]), .fz (rowsD rows), .no, .no] = .nx [.me a (mz rows h w), .fz (rowsD rows), .no, .no] := by
      have : mBI dLenX [mOp2 dIxX (mVar 1) (mC (.int 0))] [.me a (.obj "Maze" [("rows", rowsD rows), ("height", .int h)]), .fz (rowsD rows), .no, .no] = ok (.int w) := by
        rw [← ha0]
        exact i_lenS (op2_ev rfl rfl (by rw [dIx_tup (by decide), hrows]; rfl)) (by omega)
      simp only [sFldS, List.getElem?_cons_zero, this, thenF_ok]
      rfl
    have e : b_Maze ρ = .nx [.me a (mz rows h w), .fz (rowsD rows), .no, .no] := by
      unfold b_Maze
      exact seq_nx2 (if_nx c1) (seq_nx2 (if_nx c2) (seq_nx2 (if_nx c3) (seq_nx2 f1 (seq_nx2 f2 f3))))
    unfold I_Maze PP.runI
    rw [if_pos (by rfl)]
    have e' : b_Maze (.me a (.obj "Maze" []) :: startS (4 - 1) [rowsD rows]) = .nx [.me a (mz rows h w), .fz (rowsD rows), .no, .no] := e
    rw [e']
    show (if a = a then ok (mz rows h w) else bad) = _
    rw [if_pos rfl]
  unfold F_Maze
  rw [if_pos fun a => (key a).trans (key 0).symm]
  exact key 0
end K96

namespace K96
open PySem L2 PP
open PP.Res (ok exc bad)
theorem fld_rows {rows : List (List Nat)} {h w : Nat} {f : Sls → Res D} {ρ : Sls} (e : f ρ = ok (mz rows h w)) : mFld ["Maze"] "rows" f ρ = ok (rowsD rows) := by
  unfold mFld
  rw [e]
  rfl
theorem fld_height {rows : List (List Nat)} {h w : Nat} {f : Sls → Res D} {ρ : Sls} (e : f ρ = ok (mz rows h w)) : mFld ["Maze"] "height" f ρ = ok (.int h) := by
  unfold mFld
  rw [e]
  rfl
theorem fld_width {rows : List (List Nat)} {h w : Nat} {f : Sls → Res D} {ρ : Sls} (e : f ρ = ok (mz rows h w)) : mFld ["Maze"] "width" f ρ = ok (.int w) := by
  unfold mFld
  rw [e]
  rfl
theorem is_cell_pt (rows : List (List Nat)) (h w : Nat) (p : P2) : F_is_cell [mz rows h w, pt p] = ok (.bl (inB h w p)) := by
  refine runF_rt ?_
  let ρ : Sls := [.fz (mz rows h w), .fz (pt p)]
  have c : (mOr (mNot (mT (mBI dIsi [(mVar 1), (mC (.ty "tuple"))]))) (mT (mOp2 dNe (mBI dLenX [(mVar 1)]) (mC (.int 2))))) ρ = ok false :=
    (or_ev (a := false) (not_ev (a := true) (t_ev (bi_ev (args_ev rfl (args_ev rfl args0)) rfl))) fun _ => t_ev (op2_ev (bi1 rfl rfl) rfl rfl)).trans rfl
  refine seq_nx2 (if_nx c) (ret_ev ((andV_ev (call_ev (args_ev (op2_ev rfl rfl rfl) (args_ev rfl (args_ev (i_sub (fld_height (rows := rows) (h := h) (w := w) rfl) rfl) args0))) (whole_int p.1 0 _)) fun _ => call_ev (args_ev (op2_ev rfl rfl rfl) (args_ev rfl (args_ev (i_sub (fld_width (rows := rows) (h := h) (w := w) rfl) rfl) args0))) (whole_int p.2 0 _)).trans rfl))
theorem is_open_pt {rows : List (List Nat)} {h w : Nat} (R : OkRows rows h w) (p : P2) : F_is_open [mz rows h w, pt p] = ok (.bl (opn rows h w p)) := by
  refine runF_rt (ret_ev ((andV_ev (b := decide (chr rows p = 46)) (call_ev (args_ev rfl (args_ev rfl args0)) (is_cell_pt rows h w p)) fun hb => ?_).trans rfl))
  obtain ⟨⟨h1, h2⟩, h3, h4⟩ := inB_iff.mp hb
  have hr : p.1.toNat < rows.length := by rw [R.len]; omega
  have hw14 := R.w2
  have hl := R.wid rows[p.1.toNat] (List.getElem_mem hr)
  have hc : p.2.toNat < rows[p.1.toNat].length := by rw [hl]; omega
  have e1 : dIxX (rowsD rows) (.int p.1) = some (tx rows[p.1.toNat]) := by
    rw [dIx_tup h1, List.getElem?_map, List.getElem?_eq_getElem hr]
    rfl
  have e2 : dIxX (tx rows[p.1.toNat]) (.int p.2) = some (tx [chr rows p]) := by
    rw [dIx_tx (by omega) h3, List.getElem?_eq_getElem hc]
    unfold chr
    rw [List.getD_eq_getElem?_getD, List.getD_eq_getElem?_getD, List.getElem?_eq_getElem hr, Option.getD_some, List.getElem?_eq_getElem hc]
    rfl
  refine op2_ev (op2_ev (op2_ev (fld_rows (rows := rows) (h := h) (w := w) rfl) (op2_ev rfl rfl rfl) e1) (op2_ev rfl rfl rfl) e2) rfl ?_
  rw [lit_dot, dEq_tx]
  simp
theorem is_open_no {m v : D} (h : F_is_cell [m, v] = ok (.bl false)) : F_is_open [m, v] = ok (.bl false) :=
  runF_rt (ret_ev ((andV_ev (b := false) (call_ev (args_ev rfl (args_ev rfl args0)) h) fun z => nomatch z).trans rfl))
end K96

namespace K96
open PySem L2 PP
open PP.Res (ok exc bad)
theorem beside_ok {rows : List (List Nat)} {h w : Nat} (R : OkRows rows h w) (c : P2) : F_beside [mz rows h w, pt c] = ok (.tup ((nbs rows h w c).map pt)) := by
  refine runF_rt ?_
  let ρ : Sls := startS 6 [mz rows h w, pt c]
  have e1 : (mLc (mIt (mC (.tup [.tup [.int (-1), .int 0], .tup [.int 0, .int (-1)], .tup [.int 0, .int 1], .tup [.int 1, .int 0]]))) [3, 4] (tgTup 2 (tgsCons (tgName 3) (tgsCons (tgName 4) tgsNil))) mYes (mTup [(mOp2 dAdd (mOp2 dIxX (mVar 1) (mC (.int 0))) (mVar 3)), (mOp2 dAdd (mOp2 dIxX (mVar 1) (mC (.int 1))) (mVar 4))])) ρ = ok (.lst (steps4.map fun s => pt (plus c s))) :=
    lc_ev0 (as := steps4) (emb := pt) (it_ev c_ev rfl) fun s hs => ⟨_, rfl, tup_ev (args_ev (op2_ev (op2_ev rfl rfl rfl) rfl rfl) (args_ev (op2_ev (op2_ev rfl rfl rfl) rfl rfl) args0))⟩
  refine seq_nx2 (set_ev e1) (ret_ev (bi1 (lc_ev (as := steps4.map (plus c)) (emb := pt) (p := opn rows h w) (g := pt) (it_ev (var_ev (d := .lst (steps4.map fun s => pt (plus c s))) rfl) ?_) fun p hp => ⟨_, rfl, t_ev (call_ev (args_ev rfl (args_ev rfl args0)) (is_open_pt R p)), fun _ => rfl⟩) rfl))
  rw [List.map_map]
  rfl
end K96

namespace K96
open PySem L2 PP
open PP.Res (ok exc bad)
/-- a walk over as, what it gathers, and a bound that grows -/
theorem forL_fold {α β : Type} {step : D → Sls → Fl} {emb : α → D} {st : Nat → β → Sls → Prop} {g : β → α → β} : ∀ {as : List α} {i : Nat} {b : β} {ρ : Sls},
    (∀ a ∈ as, ∀ j b ρ, j < i + as.length → st j b ρ → ∃ ρ', step (emb a) ρ = .nx ρ' ∧ st (j + 1) (g b a) ρ') → st i b ρ → ∃ ρ', forL step (as.map emb) ρ = .nx ρ' ∧ st (i + as.length) (as.foldl g b) ρ'
  | [], i, b, ρ, _, h => ⟨ρ, rfl, h⟩
  | a :: as, i, b, ρ, hs, h => by
    obtain ⟨ρ1, e1, h1⟩ := hs a (by simp) i b ρ (by simp only [List.length_cons]; omega) h
    obtain ⟨ρ2, e2, h2⟩ := forL_fold (as := as) (i := i + 1) (b := g b a) (ρ := ρ1) (fun x hx j b ρ hj => hs x (by simp [hx]) j b ρ (by simp only [List.length_cons]; omega)) h1
    refine ⟨ρ2, ?_, ?_⟩
    · show (match step (emb a) ρ with
        | .nx ρ' => forL step (as.map emb) ρ'
        | .ct ρ' => forL step (as.map emb) ρ'
        | .bk ρ' => .nx ρ'
        | .rt d => .rt d
        | .exc c ρ' => .exc c ρ'
        | .bad => .bad) = _
      rw [e1]
      exact e2
    · rw [show i + (a :: as).length = i + 1 + as.length by simp only [List.length_cons]; omega]
      exact h2
theorem foldl_filter {α β : Type} (f : α → β) (p : β → Bool) : ∀ (as : List α) (acc : List β), as.foldl (fun b a => if p (f a) = true then b ++ [f a] else b) acc = acc ++ (as.map f).filter p
  | [], acc => by simp
  | a :: as, acc => by
    simp only [List.foldl_cons, List.map_cons, List.filter_cons]
    rw [foldl_filter f p as]
    cases p (f a) <;> simp
section
variable {rows : List (List Nat)} {h w : Nat}
theorem row0 (R : OkRows rows h w) {f : Sls → Res D} {ρ : Sls} (e : f ρ = ok (rowsD rows)) : mBI dLenX [mOp2 dIxX f (mC (.int 0))] ρ = ok (.int w) := by
  obtain ⟨a, r, hr, ha⟩ := first_row R
  have w14 := R.w2
  rw [← ha]
  exact i_lenS (op2_ev e rfl (by rw [dIx_tup (by decide), hr]; rfl)) (by omega)
theorem lenR (R : OkRows rows h w) {f : Sls → Res D} {ρ : Sls} (e : f ρ = ok (rowsD rows)) : mBI dLenX [f] ρ = ok (.int h) := by
  have hlen : (rowsL rows).length = h := by rw [List.length_map]; exact R.len
  rw [← hlen]
  exact i_lenT e
theorem sign_at (R : OkRows rows h w) {p : P2} (h1 : 0 ≤ p.1) (h2 : p.1 < h) (h3 : 0 ≤ p.2) (h4 : p.2 < w) {f g k : Sls → Res D} {ρ : Sls} (e1 : f ρ = ok (rowsD rows)) (e2 : g ρ = ok (.int p.1)) (e3 : k ρ = ok (.int p.2)) :
    mOp2 dIxX (mOp2 dIxX f g) k ρ = ok (tx [chr rows p]) := by
  have hr : p.1.toNat < rows.length := by rw [R.len]; omega
  have hw14 := R.w2
  have hl := R.wid rows[p.1.toNat] (List.getElem_mem hr)
  have hc : p.2.toNat < rows[p.1.toNat].length := by rw [hl]; omega
  have x1 : dIxX (rowsD rows) (.int p.1) = some (tx rows[p.1.toNat]) := by
    rw [dIx_tup h1, List.getElem?_map, List.getElem?_eq_getElem hr]
    rfl
  have x2 : dIxX (tx rows[p.1.toNat]) (.int p.2) = some (tx [chr rows p]) := by
    rw [dIx_tx (by omega) h3, List.getElem?_eq_getElem hc]
    unfold chr
    rw [List.getD_eq_getElem?_getD, List.getD_eq_getElem?_getD, List.getElem?_eq_getElem hr, Option.getD_some, List.getElem?_eq_getElem hc]
    rfl
  exact op2_ev (op2_ev e1 e2 x1) e3 x2
theorem sign_is (R : OkRows rows h w) {p : P2} (c : Nat) {z : Str} (hz : z = mkS [c]) (h1 : 0 ≤ p.1) (h2 : p.1 < h) (h3 : 0 ≤ p.2) (h4 : p.2 < w) {f g k : Sls → Res D} {ρ : Sls} (e1 : f ρ = ok (rowsD rows)) (e2 : g ρ = ok (.int p.1)) (e3 : k ρ = ok (.int p.2)) :
    mOp2 dEq (mOp2 dIxX (mOp2 dIxX f g) k) (mC (.str z)) ρ = ok (.bl (decide (chr rows p = c))) := by
  refine op2_ev (sign_at R h1 h2 h3 h4 e1 e2 e3) rfl ?_
  rw [hz, dEq_tx]
  simp
theorem rangeD0 (n : Nat) : rangeD 0 n = (List.range n).map fun k : Nat => D.int (k : Int) := by
  rw [rangeD_map]
  exact List.map_congr_left fun k _ => by rw [Int.zero_add]
theorem lbeside_ok (R : OkRows rows h w) (c : P2) : F__law_beside [rowsD rows, pt c] = ok (.lst ((nbs rows h w c).map pt)) := by
  refine runF_rt ?_
  have i0 : sSetO 2 (mLst []) (startS 7 [rowsD rows, pt c]) = .nx [.fz (rowsD rows), .fz (pt c), .ow (.lst []), .no, .no, .no, .no] := rfl
  have it : mIt (mTup [(mTup [(mOp1 dNeg (mC (.int 1))), (mC (.int 0))]), (mTup [(mC (.int 0)), (mOp1 dNeg (mC (.int 1)))]), (mTup [(mC (.int 0)), (mC (.int 1))]), (mTup [(mC (.int 1)), (mC (.int 0))])]) [.fz (rowsD rows), .fz (pt c), .ow (.lst []), .no, .no, .no, .no] = ok (steps4.map pt) := rfl
  obtain ⟨ρ', e, s3, s4, s5, s6, e2, hl⟩ := forL_fold (as := steps4) (emb := pt) (i := 0) (b := ([] : List P2)) (g := fun b s => if opn rows h w (plus c s) = true then b ++ [plus c s] else b)
    (st := fun i b ρ => ∃ s3 s4 s5 s6, ρ = [.fz (rowsD rows), .fz (pt c), .ow (.lst (b.map pt)), s3, s4, s5, s6] ∧ b.length ≤ i)
    (step := fun x ρ => thenF (tgTup 2 (tgsCons (tgName 3) (tgsCons (tgName 4) tgsNil)) x ρ).quiet ρ (sSeq (sPar 5 6 (mOp2 dAdd (mOp2 dIxX (mVar 1) (mC (.int 0))) (mVar 3)) (mOp2 dAdd (mOp2 dIxX (mVar 1) (mC (.int 1))) (mVar 4)))
    (sIf (mAnd (mT (mChain dLeX dLtX (mC (.int 0)) (mVar 5) (mBI dLenX [(mVar 0)]))) (mAnd (mT (mChain dLeX dLtX (mC (.int 0)) (mVar 6) (mBI dLenX [(mOp2 dIxX (mVar 0) (mC (.int 0)))]))) (mT (mOp2 dEq (mOp2 dIxX (mOp2 dIxX (mVar 0) (mVar 5)) (mVar 6)) (mC (.str ".")))))) (sApp 2 (mTup [(mVar 5), (mVar 6)])) sNx)))
    (ρ := [.fz (rowsD rows), .fz (pt c), .ow (.lst []), .no, .no, .no, .no]) (fun s hs j b ρ hj ⟨s3, s4, s5, s6, e, hb⟩ => by
      subst e
      have hj' : j < 4 := by simpa [steps4] using hj
      let ρ : Sls := [.fz (rowsD rows), .fz (pt c), .ow (.lst (b.map pt)), .fz (.int s.1), .fz (.int s.2), .fz (.int (plus c s).1), .fz (.int (plus c s).2)]
      have p1 : sPar 5 6 (mOp2 dAdd (mOp2 dIxX (mVar 1) (mC (.int 0))) (mVar 3)) (mOp2 dAdd (mOp2 dIxX (mVar 1) (mC (.int 1))) (mVar 4)) [.fz (rowsD rows), .fz (pt c), .ow (.lst (b.map pt)), .fz (.int s.1), .fz (.int s.2), s5, s6] = .nx ρ := par_ev (op2_ev (op2_ev rfl rfl rfl) rfl rfl) (op2_ev (op2_ev rfl rfl rfl) rfl rfl)
      have q : (mAnd (mT (mChain dLeX dLtX (mC (.int 0)) (mVar 5) (mBI dLenX [(mVar 0)]))) (mAnd (mT (mChain dLeX dLtX (mC (.int 0)) (mVar 6) (mBI dLenX [(mOp2 dIxX (mVar 0) (mC (.int 0)))]))) (mT (mOp2 dEq (mOp2 dIxX (mOp2 dIxX (mVar 0) (mVar 5)) (mVar 6)) (mC (.str ".")))))) ρ = ok (opn rows h w (plus c s)) := by
        refine (and_ev (t_ev (chain_ev (a := decide (0 ≤ (plus c s).1)) (b := decide ((plus c s).1 < (h : Int))) rfl rfl rfl fun _ => ⟨lenR R rfl, rfl⟩)) fun ha => and_ev (t_ev (chain_ev (a := decide (0 ≤ (plus c s).2)) (b := decide ((plus c s).2 < (w : Int))) rfl rfl rfl fun _ => ⟨row0 R rfl, rfl⟩)) fun hb => t_ev (sign_is R (p := plus c s) 46 lit_dot ?_ ?_ ?_ ?_ rfl rfl rfl)).trans ?_
        · simp at ha; exact ha.1
        · simp at ha; exact ha.2
        · simp at hb; exact hb.1
        · simp at hb; exact hb.2
        · congr 1
          unfold opn
          rw [Bool.eq_iff_iff]
          simp only [Bool.and_eq_true, inB_iff, decide_eq_true_eq]
          constructor
          · rintro ⟨⟨a, b⟩, ⟨c, d⟩, e⟩; exact ⟨⟨⟨a, b⟩, c, d⟩, e⟩
          · rintro ⟨⟨⟨a, b⟩, c, d⟩, e⟩; exact ⟨⟨a, b⟩, ⟨c, d⟩, e⟩
      by_cases ho : opn rows h w (plus c s) = true
      · rw [if_pos ho]
        refine ⟨ρ.set 2 (.ow (.lst ((b ++ [plus c s]).map pt))), ?_, _, _, _, _, rfl, by simp; omega⟩
        refine (seq_nx p1).trans ((if_t (by rw [q, ho])).trans ?_)
        rw [List.map_append]
        exact app_ev rfl (tup_ev (args_ev rfl (args_ev rfl args0))) (by rw [List.length_map]; omega)
      · rw [if_neg ho]
        refine ⟨ρ, ?_, _, _, _, _, rfl, by omega⟩
        exact (seq_nx p1).trans (if_nx (by rw [q]; simpa using ho))) ⟨_, _, _, _, rfl, by simp⟩
  refine seq_nx2 i0 (seq_nx2 ((for_ev it).trans e) ?_)
  rw [e2, foldl_filter, List.nil_append]
  rfl
end
end K96

namespace K96
open PySem L2 PP
open PP.Res (ok exc bad)
section
variable {rows : List (List Nat)} {h w : Nat}
theorem ext_ev {i : Nat} {ρ : Sls} {f : Sls → Res D} {ds es : List D} (h : ρ[i]? = some (.ow (.lst ds))) (hf : f ρ = ok (.lst es)) (hl : ds.length + es.length ≤ 1000000) : sExt i f ρ = .nx (ρ.set i (.ow (.lst (ds ++ es)))) := by
  unfold sExt
  rw [h]
  show thenF (f ρ) ρ _ = _
  rw [hf, thenF_ok]
  show (if ds.length + es.length ≤ sizeLine then _ else _) = _
  rw [if_pos (by have := size1000; omega)]
theorem rng_nat {f : Sls → Res D} {ρ : Sls} {n : Nat} (e : f ρ = ok (.int n)) (hn : n ≤ 1000) : mRng rng1 [f] ρ = ok (rangeD 0 n) := by
  unfold mRng
  rw [args_ev e args0, Res.ok_bind]
  show ofO (if (n : Int) ≤ 1000000 ∧ -1000000 ≤ (n : Int) then some (rangeD 0 (n : Int).toNat) else none) = _
  rw [if_pos (by omega)]
  rfl
theorem foldl_flat {α β : Type} (f : α → List β) : ∀ (as : List α) (acc : List β), as.foldl (fun b a => b ++ f a) acc = acc ++ as.flatMap f
  | [], acc => by simp
  | a :: as, acc => by
    rw [List.foldl_cons, foldl_flat f as, List.flatMap_cons, List.append_assoc]
theorem cells_ok (R : OkRows rows h w) : F__law_cells [rowsD rows] = ok (.lst ((cellsOf rows h w).map pt)) := by
  refine runF_rt ?_
  have i0 : sSetO 1 (mLst []) (startS 4 [rowsD rows]) = .nx [.fz (rowsD rows), .ow (.lst []), .no, .no] := rfl
  have h14 := R.h2
  have w14 := R.w2
  have it : mRng rng1 [(mBI dLenX [(mVar 0)])] [.fz (rowsD rows), .ow (.lst []), .no, .no] = ok ((List.range h).map fun k : Nat => D.int (k : Int)) := by
    rw [← rangeD0]; exact rng_nat (lenR R rfl) (by omega)
  obtain ⟨ρ', e, s2, s3, e2, hl⟩ := forL_fold (as := List.range h) (emb := fun k : Nat => D.int (k : Int)) (i := 0) (b := ([] : List P2)) (g := fun b r => b ++ rowCells rows w r)
    (st := fun i b ρ => ∃ s2 s3, ρ = [.fz (rowsD rows), .ow (.lst (b.map pt)), s2, s3] ∧ b.length ≤ i * 14)
    (step := fun x ρ => thenF (tgName 2 x ρ).quiet ρ (sExt 1 (mLc (mRng rng1 [(mBI dLenX [(mOp2 dIxX (mVar 0) (mC (.int 0)))])]) [3] (tgName 3) (mT (mOp2 dEq (mOp2 dIxX (mOp2 dIxX (mVar 0) (mVar 2)) (mVar 3)) (mC (.str ".")))) (mTup [(mVar 2), (mVar 3)]))))
    (ρ := [.fz (rowsD rows), .ow (.lst []), .no, .no]) (fun r hr j b ρ hj ⟨s2, s3, e, hb⟩ => by
      subst e
      have hr' := List.mem_range.mp hr
      have hj' : j < 14 := by rw [List.length_range] at hj; omega
      let ρ : Sls := [.fz (rowsD rows), .ow (.lst (b.map pt)), .fz (.int r), s3]
      have lc : mLc (mRng rng1 [(mBI dLenX [(mOp2 dIxX (mVar 0) (mC (.int 0)))])]) [3] (tgName 3) (mT (mOp2 dEq (mOp2 dIxX (mOp2 dIxX (mVar 0) (mVar 2)) (mVar 3)) (mC (.str ".")))) (mTup [(mVar 2), (mVar 3)]) ρ = ok (.lst ((rowCells rows w r).map pt)) := by
        unfold rowCells
        rw [List.map_map]
        refine lc_ev (as := List.range w) (emb := fun k : Nat => D.int (k : Int)) (p := fun k : Nat => decide (chr rows ((r : Int), (k : Int)) = 46)) (g := pt ∘ fun k : Nat => ((r : Int), (k : Int))) ((rng_nat (row0 R rfl) (by omega)).trans (by rw [rangeD0])) fun k hk => ⟨(ρ.set 3 .no).set 3 (.fz (.int (k : Int))), rfl, ?_, fun _ => rfl⟩
        have hk' := List.mem_range.mp hk
        exact t_ev (sign_is R (p := ((r : Int), (k : Int))) 46 lit_dot (Int.natCast_nonneg r) (by show (r : Int) < h; omega) (Int.natCast_nonneg k) (by show (k : Int) < w; omega) rfl rfl rfl)
      have l1 := rowCells_len rows w r
      refine ⟨ρ.set 1 (.ow (.lst ((b ++ rowCells rows w r).map pt))), ?_, _, _, rfl, by rw [List.length_append]; omega⟩
      rw [List.map_append]
      exact ext_ev (ρ := ρ) (i := 1) (ds := b.map pt) (es := (rowCells rows w r).map pt) rfl lc (by rw [List.length_map, List.length_map]; omega)) ⟨_, _, rfl, by simp⟩
  refine seq_nx2 i0 (seq_nx2 ((for_ev it).trans e) ?_)
  rw [e2, foldl_flat, List.nil_append]
  rfl
end
end K96

namespace K96
open PySem L2 PP
open PP.Res (ok exc bad)
abbrev st (c : P2) (B : List P2) : D := .tup [pt c, .tup (B.map pt)]
abbrev yd (rows : List (List Nat)) (h w : Nat) (gs : List P2) : D := .obj "Yard" [("maze", mz rows h w), ("goals", .tup (gs.map pt))]
section
variable {rows : List (List Nat)} {h w : Nat}
theorem k4 {k : Nat} (hk : k < 4) : k = 0 ∨ k = 1 ∨ k = 2 ∨ k = 3 := by omega
theorem lstep_ok (p : P2) {k : Nat} (hk : k < 4) : F__law_step [pt p, .int k] = ok (pt (stp p k)) := by
  rcases k4 hk with rfl | rfl | rfl | rfl <;> exact runF_rt (ret_ev (tup_ev (args_ev (op2_ev (op2_ev rfl rfl rfl) (op2_ev rfl rfl rfl) rfl) (args_ev (op2_ev (op2_ev rfl rfl rfl) (op2_ev rfl rfl rfl) rfl) args0))))
theorem ahead_ok (p : P2) {k : Nat} (hk : k < 4) : F_ahead [pt p, .int k] = ok (pt (stp p k)) := by
  rcases k4 hk with rfl | rfl | rfl | rfl <;> exact runF_rt (ret_ev (tup_ev (args_ev (op2_ev (op2_ev rfl rfl rfl) (op2_ev (op2_ev rfl rfl rfl) rfl rfl) rfl) (args_ev (op2_ev (op2_ev rfl rfl rfl) (op2_ev (op2_ev rfl rfl rfl) rfl rfl) rfl) args0))))
theorem back_i (k : Nat) : ((k : Int) + 2) % 4 = (back k : Nat) := by unfold back; omega
theorem fld_maze {rows : List (List Nat)} {h w : Nat} {gs : List P2} {f : Sls → Res D} {ρ : Sls} (e : f ρ = ok (yd rows h w gs)) : mFld ["Yard"] "maze" f ρ = ok (mz rows h w) := by
  unfold mFld
  rw [e]
  rfl
theorem fld_goals {rows : List (List Nat)} {h w : Nat} {gs : List P2} {f : Sls → Res D} {ρ : Sls} (e : f ρ = ok (yd rows h w gs)) : mFld ["Yard"] "goals" f ρ = ok (.tup (gs.map pt)) := by
  unfold mFld
  rw [e]
  rfl
theorem forL_nx {step : D → Sls → Fl} {x : D} {xs : List D} {ρ ρ' : Sls} (e : step x ρ = .nx ρ') : forL step (x :: xs) ρ = forL step xs ρ' := by
  conv => lhs; unfold forL; rw [e]
/-! ### the loop that walks through a room -/
section
variable {X0 X1 : Sl} {emb : List P2 → D} {step : D → Sls → Fl} {B : List P2} {nb : P2 → List P2} {cnd : Sls → Res Bool} {body : Sls → Fl}
abbrev mkR (X0 X1 : Sl) (emb : List P2 → D) (f w : List P2) (s : Sl) : Sls := [X0, X1, .ow (emb f), .ow (.lst (w.map pt)), s]
theorem loop_visit (hs : ∀ c f w s, f.length ≤ 400000 → w.length ≤ 400000 → ∃ s', step (pt c) (mkR X0 X1 emb f w s) = .nx (if c ∉ f ∧ c ∉ B then mkR X0 X1 emb (f ++ [c]) (w ++ [c]) s' else mkR X0 X1 emb f w s')) : ∀ (cs f w : List P2) (s : Sl), f.length + cs.length ≤ 400000 → w.length + cs.length ≤ 400000 →
    ∃ s', forL step (cs.map pt) (mkR X0 X1 emb f w s) = .nx (mkR X0 X1 emb (visit B cs (f, w)).1 (visit B cs (f, w)).2 s')
  | [], f, w, s, _, _ => ⟨s, rfl⟩
  | c :: cs, f, w, s, h1, h2 => by
    simp only [List.length_cons] at h1 h2
    obtain ⟨s', e⟩ := hs c f w s (by omega) (by omega)
    unfold visit
    by_cases q : c ∉ f ∧ c ∉ B
    · rw [if_pos q] at e
      simp only [if_pos q]
      obtain ⟨s2, e2⟩ := loop_visit hs cs (f ++ [c]) (w ++ [c]) s' (by simp; omega) (by simp; omega)
      exact ⟨s2, (forL_nx e).trans e2⟩
    · rw [if_neg q] at e
      simp only [if_neg q]
      obtain ⟨s2, e2⟩ := loop_visit hs cs f w s' (by omega) (by omega)
      exact ⟨s2, (forL_nx e).trans e2⟩
theorem visit_len (B : List P2) : ∀ (cs f w : List P2), (visit B cs (f, w)).1.length ≤ f.length + cs.length ∧ (visit B cs (f, w)).2.length ≤ w.length + cs.length
  | [], f, w => ⟨Nat.le_refl _, Nat.le_refl _⟩
  | c :: cs, f, w => by
    unfold visit
    by_cases q : c ∉ f ∧ c ∉ B
    · simp only [if_pos q]
      have := visit_len B cs (f ++ [c]) (w ++ [c])
      simp only [List.length_append, List.length_cons, List.length_nil] at this ⊢
      omega
    · simp only [if_neg q]
      have := visit_len B cs f w
      simp only [List.length_cons] at this ⊢
      omega
theorem loop_while (hs : ∀ c f w s, f.length ≤ 400000 → w.length ≤ 400000 → ∃ s', step (pt c) (mkR X0 X1 emb f w s) = .nx (if c ∉ f ∧ c ∉ B then mkR X0 X1 emb (f ++ [c]) (w ++ [c]) s' else mkR X0 X1 emb f w s'))
    (hc : ∀ f w s, cnd (mkR X0 X1 emb f w s) = ok (decide (0 < w.length))) (hb : ∀ f w x s, body (mkR X0 X1 emb f (w ++ [x]) s) = forL step ((nb x).map pt) (mkR X0 X1 emb f w s)) (hnb : ∀ x, (nb x).length ≤ 4) :
    ∀ (n : Nat) (f w : List P2) (s : Sl) (g : List P2), f.length + 4 * n ≤ 400000 → w.length + 4 * n ≤ 400000 → dfs nb B n (f, w) = some g → ∃ s', whileN cnd body n (mkR X0 X1 emb f w s) = .nx (mkR X0 X1 emb g [] s')
  | 0, f, w, s, g, _, _, e => by unfold dfs at e; cases e
  | n + 1, f, w, s, g, h1, h2, e => by
    unfold dfs at e
    cases q : w.getLast? with
    | none =>
      rw [q] at e
      cases e
      have : w = [] := by simpa using q
      subst this
      refine ⟨s, ?_⟩
      unfold whileN
      rw [hc, thenF_ok]
      rfl
    | some x =>
      simp only [q] at e
      obtain ⟨ys, hys⟩ := List.getLast?_eq_some_iff.mp q
      subst hys
      rw [List.dropLast_concat] at e
      have l := hnb x
      simp only [List.length_append, List.length_singleton] at h2
      obtain ⟨s1, e1⟩ := loop_visit hs (nb x) f ys s (by omega) (by omega)
      obtain ⟨v1, v2⟩ := visit_len B (nb x) f ys
      obtain ⟨s2, e2⟩ := loop_while hs hc hb hnb n (visit B (nb x) (f, ys)).1 (visit B (nb x) (f, ys)).2 s1 g (by omega) (by omega) e
      refine ⟨s2, ?_⟩
      unfold whileN
      rw [hc, thenF_ok, decide_eq_true (by simp)]
      simp only [if_true]
      rw [hb, e1]
      exact e2
end
theorem pop2_ev {F : List D → Res D} {fm : Sls → Res D} {m : D} {ρ : Sls} {i : Nat} {xs : List D} {x : D} {ds : List D} (hm : fm ρ = ok m) (hi : ρ[i]? = some (.ow (.lst (xs ++ [x])))) (hF : F [m, x] = ok (.tup ds) ∨ F [m, x] = ok (.lst ds)) : mPop2 F fm i ρ = some (ρ.set i (.ow (.lst xs)), ds) := by
  unfold mPop2
  rw [hm]
  have : popSl i ρ = some (ρ.set i (.ow (.lst xs)), x) := by
    unfold popSl
    rw [hi]
    simp
  rw [this]
  rcases hF with e | e <;> simp only [e]
theorem nbs_len (rows : List (List Nat)) (h w : Nat) (x : P2) : (nbs rows h w x).length ≤ 4 := by
  unfold nbs
  refine Nat.le_trans (List.length_filter_le _ _) ?_
  rw [List.length_map]
  exact Nat.le_refl _
theorem gt0 {ρ : Sls} {xs : List D} (e : ρ[3]? = some (.ow (.lst xs))) : mT (mOp2 dGtX (mBI dLenX [(mVarB 3)]) (mC (.int 0))) ρ = ok (decide (0 < xs.length)) := by
  refine (t_gt (i_lenL (varB_ow e)) rfl).trans ?_
  congr 1
  exact decide_eq_decide.mpr (by omega)
theorem reach_ok (R : OkRows rows h w) {c : P2} {B gs : List P2} (oc : opn rows h w c = true) (nc : c ∉ B) : F_reach [yd rows h w gs, st c B] = ok (.dct ((fnd rows h w c B).map fun p => (pt p, .bl true))) := by
  refine runF_rt ?_
  obtain ⟨d1, _⟩ := fnd_ok R.h2 R.w2 oc nc
  let emb : List P2 → D := fun f => .dct (f.map fun p => (pt p, .bl true))
  obtain ⟨s', e⟩ := loop_while (X0 := .fz (yd rows h w gs)) (X1 := .fz (st c B)) (emb := emb) (B := B) (nb := nbs rows h w)
    (step := fun x ρ => thenF (tgName 4 x ρ).quiet ρ (sIf (mAnd (mT (mOp2 dNotInX (mVar 4) (mVarB 2))) (mT (mOp2 dNotInX (mVar 4) (mOp2 dIxX (mVar 1) (mC (.int 1)))))) (sSeq (sPut 2 (mVar 4) (mC (.bl true))) (sApp 3 (mVar 4))) sNx))
    (cnd := mT (mOp2 dGtX (mBI dLenX [(mVarB 3)]) (mC (.int 0))))
    (body := sForS (mPop2 F_beside (mFld ["Yard"] "maze" (mVar 0)) 3) (tgName 4) (sIf (mAnd (mT (mOp2 dNotInX (mVar 4) (mVarB 2))) (mT (mOp2 dNotInX (mVar 4) (mOp2 dIxX (mVar 1) (mC (.int 1)))))) (sSeq (sPut 2 (mVar 4) (mC (.bl true))) (sApp 3 (mVar 4))) sNx))
    (fun p f v s hf hv => ⟨.fz (pt p), by
      show sIf _ _ _ (mkR (.fz (yd rows h w gs)) (.fz (st c B)) emb f v (.fz (pt p))) = _
      have q : (mAnd (mT (mOp2 dNotInX (mVar 4) (mVarB 2))) (mT (mOp2 dNotInX (mVar 4) (mOp2 dIxX (mVar 1) (mC (.int 1)))))) (mkR (.fz (yd rows h w gs)) (.fz (st c B)) emb f v (.fz (pt p))) = ok (!decide (p ∈ f) && !decide (p ∈ B)) :=
        and_ev (t_ev (op2_ev rfl (varB_ow rfl) (notX_dct p f))) fun _ => t_ev (op2_ev rfl (op2_ev rfl rfl rfl) (notX_tup (in_pt p B)))
      by_cases k : p ∉ f ∧ p ∉ B
      · rw [if_pos k]
        refine (if_t (by rw [q, decide_eq_false k.1, decide_eq_false k.2]; rfl)).trans (seq_nx2 (put_pt (k := fun _ => .bl true) rfl rfl rfl k.1 (by omega)) ?_)
        refine (app_ev (xs := v.map pt) rfl rfl (by rw [List.length_map]; omega)).trans ?_
        show Fl.nx [.fz (yd rows h w gs), .fz (st c B), .ow (emb (f ++ [p])), .ow (.lst (v.map pt ++ [pt p])), .fz (pt p)] = Fl.nx [.fz (yd rows h w gs), .fz (st c B), .ow (emb (f ++ [p])), .ow (.lst ((v ++ [p]).map pt)), .fz (pt p)]
        rw [List.map_append]
        rfl
      · rw [if_neg k]
        refine if_nx (by
          rw [q]
          congr 1
          by_cases k1 : p ∈ f
          · rw [decide_eq_true k1]; rfl
          · by_cases k2 : p ∈ B
            · rw [decide_eq_true k2, Bool.and_comm]; rfl
            · exact absurd ⟨k1, k2⟩ k)⟩)
    (fun f v s => (gt0 (xs := v.map pt) rfl).trans (by rw [List.length_map]))
    (fun f v x s => by
      unfold sForS
      have : mPop2 F_beside (mFld ["Yard"] "maze" (mVar 0)) 3 (mkR (.fz (yd rows h w gs)) (.fz (st c B)) emb f (v ++ [x]) s) = some (mkR (.fz (yd rows h w gs)) (.fz (st c B)) emb f v s, (nbs rows h w x).map pt) :=
        pop2_ev (xs := v.map pt) (x := pt x) (fld_maze rfl) (by show some (Sl.ow (.lst ((v ++ [x]).map pt))) = _; rw [List.map_append]; rfl) (.inl (beside_ok R x))
      rw [this])
    (nbs_len rows h w) 1000 [c] [c] .no _ (by simp) (by simp) d1
  have i0 : sSetO 2 (mDisp1 (mOp2 dIxX (mVar 1) (mC (.int 0))) (mC (.bl true))) (startS 5 [yd rows h w gs, st c B]) = .nx [.fz (yd rows h w gs), .fz (st c B), .ow (emb [c]), .no, .no] := setO_ev (disp1_pt (p := c) (op2_ev rfl rfl rfl) rfl)
  have i1 : sSetO 3 (mLst [(mOp2 dIxX (mVar 1) (mC (.int 0)))]) [.fz (yd rows h w gs), .fz (st c B), .ow (emb [c]), .no, .no] = .nx (mkR (.fz (yd rows h w gs)) (.fz (st c B)) emb [c] [c] .no) := setO_ev (lst_ev (args_ev (op2_ev rfl rfl rfl) args0))
  exact seq_nx2 i0 (seq_nx2 i1 (seq_nx2 e rfl))
end
end K96

namespace K96
open PySem L2 PP
open PP.Res (ok exc bad)
section
variable {rows : List (List Nat)} {h w : Nat} {gs : List P2} {c : P2} {B : List P2}
theorem foldl_fm {α β : Type} (f : α → β) (p : α → Bool) : ∀ (as : List α) (acc : List β), as.foldl (fun b a => if p a = true then b ++ [f a] else b) acc = acc ++ (as.filter p).map f
  | [], acc => by simp
  | a :: as, acc => by
    simp only [List.foldl_cons, List.filter_cons]
    rw [foldl_fm f p as]
    cases p a <;> simp
theorem rng4 {f : Sls → Res D} {ρ : Sls} (e : f ρ = ok (.int 4)) : mRng rng1 [f] ρ = ok ((List.range 4).map fun k : Nat => D.int (k : Int)) := (rng_nat (n := 4) e (by omega)).trans (by rw [rangeD0])
theorem free_ok (R : OkRows rows h w) (p : P2) : F_is_free [yd rows h w gs, .tup (B.map pt), pt p] = ok (.bl (opn rows h w p && !decide (p ∈ B))) :=
  runF_rt (ret_ev (andV_ev (call_ev (args_ev (fld_maze rfl) (args_ev rfl args0)) (is_open_pt R p)) fun _ => op2_ev rfl rfl (notX_tup (in_pt p B))))
theorem loop_psh {F : List P2} {S : List (P2 × Int) → P2 → Sls → Prop} {T : List (P2 × Int) → Sls → Prop} {so si : D → Sls → Fl} (l : List P2)
    (hin : ∀ b ∈ l, ∀ k, k < 4 → ∀ acc ρ, acc.length ≤ 500000 → S acc b ρ → ∃ ρ', si (.int (k : Nat)) ρ = .nx ρ' ∧ S (if okP rows h w B F b k = true then acc ++ [(b, (k : Int))] else acc) b ρ')
    (hout : ∀ b ∈ l, ∀ acc ρ, T acc ρ → ∃ ρ1, S acc b ρ1 ∧ so (pt b) ρ = forL si ((List.range 4).map fun k : Nat => D.int (k : Int)) ρ1)
    (hend : ∀ b acc ρ, S acc b ρ → T acc ρ) (hl : l.length ≤ 1000) {ρ : Sls} (h0 : T [] ρ) :
    ∃ ρ', forL so (l.map pt) ρ = .nx ρ' ∧ T (l.flatMap fun b => ((List.range 4).filter (okP rows h w B F b)).map fun k : Nat => (b, (k : Int))) ρ' := by
  obtain ⟨ρ', e, t, _⟩ := forL_fold (as := l) (emb := pt) (i := 0) (b := ([] : List (P2 × Int))) (g := fun acc b => acc ++ ((List.range 4).filter (okP rows h w B F b)).map fun k : Nat => (b, (k : Int)))
    (st := fun i acc ρ => T acc ρ ∧ acc.length ≤ 4 * i) (step := so) (ρ := ρ) (fun b hb j acc ρ hj ⟨t, la⟩ => by
      obtain ⟨ρ1, s1, e1⟩ := hout b hb acc ρ t
      obtain ⟨ρ2, e2, s2, l2⟩ := forL_fold (as := List.range 4) (emb := fun k : Nat => D.int (k : Int)) (i := 0) (b := acc) (g := fun acc k => if okP rows h w B F b k = true then acc ++ [(b, (k : Int))] else acc)
        (st := fun i acc' ρ => S acc' b ρ ∧ acc'.length ≤ acc.length + i) (step := si) (ρ := ρ1) (fun k hk i acc' ρ hi ⟨s, ls⟩ => by
          have hk' := List.mem_range.mp hk
          rw [List.length_range] at hi
          obtain ⟨ρ', e', s'⟩ := hin b hb k hk' acc' ρ (by omega) s
          refine ⟨ρ', e', s', ?_⟩
          split
          · rw [List.length_append, List.length_singleton]; omega
          · omega) ⟨s1, by omega⟩
      rw [foldl_fm] at s2 l2
      rw [List.length_range] at l2
      exact ⟨ρ2, e1.trans e2, hend b _ _ s2, by omega⟩) ⟨h0, by simp⟩
  rw [foldl_flat, List.nil_append] at t
  exact ⟨ρ', e, t⟩
theorem all_pushes_ok (R : OkRows rows h w) (oc : opn rows h w c = true) (nc : c ∉ B) (hB : B.length ≤ 1000) : F_all_pushes [yd rows h w gs, st c B] = ok (.lst ((psh rows h w B (fnd rows h w c B)).map ph)) := by
  refine runF_rt ?_
  let ds : D := .dct ((fnd rows h w c B).map fun p => (pt p, .bl true))
  have i0 : sSet 2 (mCall F_reach [(mVar 0), (mVar 1)]) (startS 6 [yd rows h w gs, st c B]) = .nx [.fz (yd rows h w gs), .fz (st c B), .fz ds, .no, .no, .no] := set_ev (call_ev (args_ev rfl (args_ev rfl args0)) (reach_ok R oc nc))
  have i1 : sSetO 3 (mLst []) [.fz (yd rows h w gs), .fz (st c B), .fz ds, .no, .no, .no] = .nx [.fz (yd rows h w gs), .fz (st c B), .fz ds, .ow (.lst []), .no, .no] := rfl
  obtain ⟨ρ', e, s4, s5, e2⟩ := loop_psh (rows := rows) (h := h) (w := w) (B := B) (F := fnd rows h w c B)
    (S := fun acc b ρ => ∃ s5, ρ = [.fz (yd rows h w gs), .fz (st c B), .fz ds, .ow (.lst (acc.map ph)), .fz (pt b), s5])
    (T := fun acc ρ => ∃ s4 s5, ρ = [.fz (yd rows h w gs), .fz (st c B), .fz ds, .ow (.lst (acc.map ph)), s4, s5])
    (so := fun x ρ => thenF (tgName 4 x ρ).quiet ρ (sFor (mRng rng1 [(mC (.int 4))]) (tgName 5)
    (sIf (mAnd (mT (mCall F_is_free [(mVar 0), (mOp2 dIxX (mVar 1) (mC (.int 1))), (mCall F_ahead [(mVar 4), (mVar 5)])])) (mT (mOp2 dInX (mCall F_ahead [(mVar 4), (mOp2 dMod (mOp2 dAdd (mVar 5) (mC (.int 2))) (mC (.int 4)))]) (mVar 2)))) (sApp 3 (mTup [(mVar 4), (mVar 5)])) sNx)))
    (si := fun x ρ => thenF (tgName 5 x ρ).quiet ρ (sIf (mAnd (mT (mCall F_is_free [(mVar 0), (mOp2 dIxX (mVar 1) (mC (.int 1))), (mCall F_ahead [(mVar 4), (mVar 5)])])) (mT (mOp2 dInX (mCall F_ahead [(mVar 4), (mOp2 dMod (mOp2 dAdd (mVar 5) (mC (.int 2))) (mC (.int 4)))]) (mVar 2)))) (sApp 3 (mTup [(mVar 4), (mVar 5)])) sNx)) B
    (fun b hb k hk acc ρ la ⟨s5, eρ⟩ => by
      subst eρ
      let ρ : Sls := [.fz (yd rows h w gs), .fz (st c B), .fz ds, .ow (.lst (acc.map ph)), .fz (pt b), .fz (.int k)]
      have q : (mAnd (mT (mCall F_is_free [(mVar 0), (mOp2 dIxX (mVar 1) (mC (.int 1))), (mCall F_ahead [(mVar 4), (mVar 5)])])) (mT (mOp2 dInX (mCall F_ahead [(mVar 4), (mOp2 dMod (mOp2 dAdd (mVar 5) (mC (.int 2))) (mC (.int 4)))]) (mVar 2)))) ρ = ok (okP rows h w B (fnd rows h w c B) b k) := by
        refine (and_ev (t_ev (call_ev (args_ev rfl (args_ev (op2_ev rfl rfl rfl) (args_ev (call_ev (args_ev rfl (args_ev rfl args0)) (ahead_ok b hk)) args0))) (free_ok R _))) fun _ => t_ev (op2_ev (call_ev (args_ev rfl (args_ev (i_mod (i_add rfl rfl) rfl) args0)) (by rw [back_i]; exact ahead_ok b (back_lt k))) rfl (inX_dct _ _))).trans ?_
        unfold okP
        rw [Bool.and_assoc]
      by_cases o : okP rows h w B (fnd rows h w c B) b k = true
      · refine ⟨ρ.set 3 (.ow (.lst ((acc ++ [(b, (k : Int))]).map ph))), ?_, ?_⟩
        · refine (if_t (by rw [q, o]) : sIf _ _ _ ρ = _).trans ?_
          rw [List.map_append]
          exact app_ev rfl (tup_ev (args_ev rfl (args_ev rfl args0))) (by rw [List.length_map]; omega)
        · rw [if_pos o]; exact ⟨_, rfl⟩
      · refine ⟨ρ, (if_nx (by rw [q]; simpa using o) : sIf _ _ _ ρ = _), ?_⟩
        rw [if_neg o]; exact ⟨_, rfl⟩)
    (fun b hb acc ρ ⟨s4, s5, eρ⟩ => by
      subst eρ
      exact ⟨[.fz (yd rows h w gs), .fz (st c B), .fz ds, .ow (.lst (acc.map ph)), .fz (pt b), s5], ⟨s5, rfl⟩, (by
        show sFor (mRng rng1 [(mC (.int 4))]) _ _ [.fz (yd rows h w gs), .fz (st c B), .fz ds, .ow (.lst (acc.map ph)), .fz (pt b), s5] = _
        exact for_ev (rng4 rfl))⟩)
    (fun b acc ρ ⟨s5, eρ⟩ => ⟨_, s5, eρ⟩) hB ⟨_, _, rfl⟩
  refine seq_nx2 i0 (seq_nx2 i1 (seq_nx2 ((for_ev (it_ev (op2_ev rfl rfl rfl) rfl)).trans e) ?_))
  rw [e2]
  rfl
theorem dAdd_l {a b : List D} (hl : a.length + b.length ≤ 1000000) : dAdd (.lst a) (.lst b) = some (.lst (a ++ b)) := by
  show (if a.length + b.length ≤ sizeLine then some (D.lst (a ++ b)) else none) = _
  rw [if_pos (by have := size1000; omega)]
theorem dAdd_t {a b : List D} (hl : a.length + b.length ≤ 1000000) : dAdd (.tup a) (.tup b) = some (.tup (a ++ b)) := by
  show (if a.length + b.length ≤ sizeLine then some (D.tup (a ++ b)) else none) = _
  rw [if_pos (by have := size1000; omega)]
theorem len_f {α : Type} (p : α → Bool) (l : List α) : (l.filter p).length ≤ l.length := List.length_filter_le p l
theorem moved_ok (b : P2) {k : Nat} (hk : k < 4) (hB : B.length ≤ 1000) : F_moved [st c B, ph (b, (k : Int))] = ok (st b (mov B b k)) := by
  refine runF_rt ?_
  have i0 : sAsg (tgTup 2 (tgsCons (tgName 2) (tgsCons (tgName 3) tgsNil))) (mVar 1) (startS 6 [st c B, ph (b, (k : Int))]) = .nx [.fz (st c B), .fz (ph (b, (k : Int))), .fz (pt b), .fz (.int k), .no, .no] := asg2_ev rfl
  have lc : (mLc (mIt (mOp2 dIxX (mVar 0) (mC (.int 1)))) [5] (tgName 5) (mT (mOp2 dNe (mVar 5) (mVar 2))) (mVar 5)) [.fz (st c B), .fz (ph (b, (k : Int))), .fz (pt b), .fz (.int k), .no, .no] = ok (.lst ((B.filter fun x => !decide (x = b)).map pt)) :=
    lc_ev (as := B) (emb := pt) (g := pt) (it_ev (op2_ev rfl rfl rfl) rfl) fun x hx => ⟨_, rfl, t_neP rfl rfl, fun _ => rfl⟩
  have l1 := len_f (fun x => !decide (x = b)) B
  have i1 : sSet 4 (mOp2 dAdd (mLc (mIt (mOp2 dIxX (mVar 0) (mC (.int 1)))) [5] (tgName 5) (mT (mOp2 dNe (mVar 5) (mVar 2))) (mVar 5)) (mLst [(mCall F_ahead [(mVar 2), (mVar 3)])])) [.fz (st c B), .fz (ph (b, (k : Int))), .fz (pt b), .fz (.int k), .no, .no] = .nx [.fz (st c B), .fz (ph (b, (k : Int))), .fz (pt b), .fz (.int k), .fz (.lst ((B.filter (fun x => !decide (x = b)) ++ [stp b k]).map pt)), .no] := by
    refine set_ev (op2_ev lc (lst_ev (args_ev (call_ev (args_ev rfl (args_ev rfl args0)) (ahead_ok b hk)) args0)) ?_)
    rw [dAdd_l (by rw [List.length_map, List.length_singleton]; omega), List.map_append]
    rfl
  exact seq_nx2 i0 (seq_nx2 i1 (ret_ev (tup_ev (args_ev rfl (args_ev (bi1 (bi1 rfl (sorted_pt _)) rfl) args0)))))
end
end K96

namespace K96
open PySem L2 PP
open PP.Res (ok exc bad)
section
variable {rows : List (List Nat)} {h w : Nat} {gs : List P2} {c : P2} {B : List P2}
theorem rng_int {f : Sls → Res D} {ρ : Sls} {j : Int} (e : f ρ = ok (.int j)) (h1 : j ≤ 1000) (h2 : -1000 ≤ j) : mRng rng1 [f] ρ = ok ((List.range j.toNat).map fun k : Nat => D.int (k : Int)) := by
  unfold mRng
  rw [args_ev e args0, Res.ok_bind]
  show ofO (if j ≤ 1000000 ∧ -1000000 ≤ j then some (rangeD 0 j.toNat) else none) = _
  rw [if_pos (by omega), rangeD0]
  rfl
/-! ### no cells -/
theorem not_cell1 {m v : D} (h : dIsi [v, .ty "tuple"] = some (.bl false)) : F_is_cell [m, v] = ok (.bl false) := by
  refine runF_rt ?_
  have c : (mOr (mNot (mT (mBI dIsi [(mVar 1), (mC (.ty "tuple"))]))) (mT (mOp2 dNe (mBI dLenX [(mVar 1)]) (mC (.int 2))))) [.fz m, .fz v] = ok true :=
    (or_ev (a := true) (b := true) (not_ev (a := false) (t_ev (bi_ev (args_ev rfl (args_ev rfl args0)) h))) fun z => nomatch z).trans rfl
  exact seq_rt ((if_t c).trans rfl)
theorem not_cell3 (rows : List (List Nat)) (h w : Nat) (b : Bool) (i : Int) : F_is_cell [mz rows h w, .tup [.bl b, .int i]] = ok (.bl false) := by
  refine runF_rt ?_
  have c : (mOr (mNot (mT (mBI dIsi [(mVar 1), (mC (.ty "tuple"))]))) (mT (mOp2 dNe (mBI dLenX [(mVar 1)]) (mC (.int 2))))) [.fz (mz rows h w), .fz (.tup [.bl b, .int i])] = ok false :=
    (or_ev (a := false) (not_ev (a := true) (t_ev (bi_ev (args_ev rfl (args_ev rfl args0)) rfl))) fun _ => t_ev (op2_ev (bi1 rfl rfl) rfl rfl)).trans rfl
  exact seq_nx2 (if_nx c) (ret_ev ((andV_ev (a := false) (b := false) (call_ev (args_ev (op2_ev rfl rfl rfl) (args_ev rfl (args_ev (i_sub (fld_height (rows := rows) (h := h) (w := w) rfl) rfl) args0))) (whole_bl b 0 _)) fun z => nomatch z).trans rfl))
/-! ### are_cells -/
def adj (l : List P2) : Bool := (List.range (l.length - 1)).all fun i => !leP (l.getD (i + 1) (0, 0)) (l.getD i (0, 0))
theorem not_le_lt {a b : P2} (h : leP b a = false) : ltP a b := by
  have t := leP_tot a b
  rw [h, Bool.or_false] at t
  exact leP_lt t fun e => by
    rw [e] at h
    have t := leP_tot b b
    rw [Bool.or_self, h] at t
    cases t
theorem lt_not_le {a b : P2} (h : ltP a b) : leP b a = false := by
  rw [Bool.eq_false_iff]
  intro e
  unfold leP at e
  unfold ltP at h
  simp only [decide_eq_true_eq] at e
  omega
theorem adj_iff {l : List P2} : adj l = true ↔ Asc l := by
  have gd : ∀ i (hi : i < l.length), l.getD i (0, 0) = l[i] := fun i hi => by rw [List.getD_eq_getElem?_getD, List.getElem?_eq_getElem hi]; rfl
  unfold adj
  rw [List.all_eq_true]
  constructor
  · intro k
    have key : ∀ j (hj : j < l.length) i (hi : i < l.length), i < j → ltP l[i] l[j] := by
      intro j
      induction j with
      | zero => intro _ _ _ h; omega
      | succ j ih =>
        intro hj i hi hij
        have st := k j (List.mem_range.mpr (by omega))
        rw [gd _ hj, gd _ (by omega), Bool.not_eq_true'] at st
        have st := not_le_lt st
        by_cases e : i = j
        · subst e; exact st
        · exact ltP_tr _ _ _ (ih (by omega) i hi (by omega)) st
    exact List.pairwise_iff_getElem.mpr fun i j hi hj hij => key j hj i hi hij
  · intro k i hi
    have hi := List.mem_range.mp hi
    rw [gd _ (by omega), gd _ (by omega), lt_not_le (List.pairwise_iff_getElem.mp k i (i + 1) (by omega) (by omega) (by omega))]
    rfl
def areB (rows : List (List Nat)) (h w : Nat) (l : List P2) : Bool := l.all (opn rows h w) && adj l
theorem areB_good (a : Asc B) (o : ∀ b ∈ B, opn rows h w b = true) : areB rows h w B = true := by
  unfold areB
  rw [adj_iff.mpr a, List.all_eq_true.mpr o]
  rfl
theorem are_pts (R : OkRows rows h w) (l : List P2) (hl : l.length ≤ 1000) : F_are_cells [mz rows h w, .tup (l.map pt)] = ok (.bl (areB rows h w l)) := by
  refine runF_rt ?_
  let ρ : Sls := [.fz (mz rows h w), .fz (.tup (l.map pt)), .no, .no]
  have cnd : (mOr (mNot (mT (mBI dIsi [(mVar 1), (mC (.ty "tuple"))]))) (mNot (mT (mBI dAll [(mLc (mIt (mVar 1)) [2] (tgName 2) mYes (mCall F_is_open [(mVar 0), (mVar 2)]))])))) ρ = ok (!l.all (opn rows h w)) :=
    (or_ev (a := false) (not_ev (a := true) (t_ev (bi_ev (args_ev rfl (args_ev rfl args0)) rfl))) fun _ => not_ev (t_ev (bi1 (lc_ev0 (as := l) (emb := pt) (g := fun p => D.bl (opn rows h w p)) (it_ev rfl rfl) fun p hp => ⟨_, rfl, call_ev (args_ev rfl (args_ev rfl args0)) (is_open_pt R p)⟩) (dAll_map _ _)))).trans rfl
  unfold areB
  cases e : l.all (opn rows h w) with
  | false => exact seq_rt ((if_t (cnd.trans (by rw [e]; rfl))).trans rfl)
  | true =>
    refine seq_nx2 (if_nx (cnd.trans (by rw [e]; rfl))) (ret_ev (bi1 (lc_ev0 (as := List.range (l.length - 1)) (emb := fun k : Nat => D.int (k : Int)) (g := fun i => D.bl (!leP (l.getD (i + 1) (0, 0)) (l.getD i (0, 0)))) ?_ fun i hi => ⟨_, rfl, ?_⟩) (dAll_map _ _)))
    · refine (rng_int (i_sub (i_lenT rfl) rfl) ?_ ?_).trans ?_
      · rw [List.length_map]; omega
      · omega
      · rw [List.length_map, show ((l.length : Int) - 1).toNat = l.length - 1 by omega]
    · have hi' := List.mem_range.mp hi
      have x : ∀ j : Nat, j < l.length → dIxX (.tup (l.map pt)) (.int (j : Int)) = some (pt (l.getD j (0, 0))) := fun j hj => by
        rw [dIx_tup (by omega), Int.toNat_natCast, List.getElem?_map, List.getElem?_eq_getElem hj, List.getD_eq_getElem?_getD, List.getElem?_eq_getElem hj]
        rfl
      exact op2_ev (op2_ev rfl rfl (x i (by omega))) (op2_ev rfl (i_add rfl rfl) (x (i + 1) (by omega))) (dLtX_pt _ _)
theorem are_nt {m v : D} (h : dIsi [v, .ty "tuple"] = some (.bl false)) : F_are_cells [m, v] = ok (.bl false) := by
  refine runF_rt (seq_rt ((if_t ?_).trans rfl))
  exact (or_ev (a := true) (b := true) (not_ev (a := false) (t_ev (bi_ev (args_ev rfl (args_ev rfl args0)) h))) fun z => nomatch z).trans rfl
theorem are_no {m : D} {ds : List D} (p : D → Bool) (h : ∀ d ∈ ds, F_is_open [m, d] = ok (.bl (p d))) (hp : ∃ d ∈ ds, p d = false) : F_are_cells [m, .tup ds] = ok (.bl false) := by
  refine runF_rt (seq_rt ((if_t ?_).trans rfl))
  have e : ds.all p = false := by
    obtain ⟨d, hd, k⟩ := hp
    rw [List.all_eq_false]
    exact ⟨d, hd, by rw [k]; simp⟩
  exact (or_ev (a := false) (not_ev (a := true) (t_ev (bi_ev (args_ev rfl (args_ev rfl args0)) rfl))) fun _ => not_ev (a := false) (t_ev (bi1 (lc_ev0 (as := ds) (emb := id) (g := fun d => D.bl (p d)) (it_ev rfl (by rw [List.map_id]; rfl)) fun d hd => ⟨_, rfl, call_ev (args_ev rfl (args_ev rfl args0)) (h d hd)⟩) (by rw [dAll_map, e])))).trans rfl
/-! ### is_state -/
theorem is_state_pts (R : OkRows rows h w) (c : P2) (l : List P2) (hl : l.length ≤ 1000) : F_is_state [yd rows h w gs, st c l] = ok (.bl (opn rows h w c && (areB rows h w l && (decide (l.length = gs.length) && !decide (c ∈ l))))) := by
  refine runF_rt ?_
  let ρ : Sls := [.fz (yd rows h w gs), .fz (st c l)]
  have cnd : (mOr (mNot (mT (mBI dIsi [(mVar 1), (mC (.ty "tuple"))]))) (mOr (mT (mOp2 dNe (mBI dLenX [(mVar 1)]) (mC (.int 2)))) (mNot (mT (mCall F_is_open [(mFld ["Yard"] "maze" (mVar 0)), (mOp2 dIxX (mVar 1) (mC (.int 0)))]))))) ρ = ok (!opn rows h w c) :=
    (or_ev (a := false) (not_ev (a := true) (t_ev (bi_ev (args_ev rfl (args_ev rfl args0)) rfl))) fun _ => or_ev (a := false) (t_ev (op2_ev (bi1 rfl rfl) rfl rfl)) fun _ => not_ev (t_ev (call_ev (args_ev (fld_maze rfl) (args_ev (op2_ev rfl rfl rfl) args0)) (is_open_pt R c)))).trans rfl
  cases e : opn rows h w c with
  | false => exact seq_rt ((if_t (cnd.trans (by rw [e]; rfl))).trans rfl)
  | true =>
    refine seq_nx2 (if_nx (cnd.trans (by rw [e]; rfl))) (ret_ev ((andV_ev (call_ev (args_ev (fld_maze rfl) (args_ev (op2_ev rfl rfl rfl) args0)) (are_pts R l hl)) fun _ => andV_ev (a := decide (l.length = gs.length)) (op2_ev (i_lenT (op2_ev rfl rfl rfl)) (i_lenT (fld_goals rfl)) ?_) fun _ => op2_ev (op2_ev rfl rfl rfl) (op2_ev rfl rfl rfl) (notX_tup (in_pt c l))).trans rfl))
    rw [dEq_i, List.length_map, List.length_map]
    congr 2
    exact decide_eq_decide.mpr (by omega)
theorem is_state_nt {Y v : D} (h : dIsi [v, .ty "tuple"] = some (.bl false)) : F_is_state [Y, v] = ok (.bl false) := by
  refine runF_rt (seq_rt ((if_t ?_).trans rfl))
  exact (or_ev (a := true) (b := true) (not_ev (a := false) (t_ev (bi_ev (args_ev rfl (args_ev rfl args0)) h))) fun z => nomatch z).trans rfl
theorem is_state_len {Y : D} {ds : List D} (h : ds.length ≠ 2) : F_is_state [Y, .tup ds] = ok (.bl false) := by
  refine runF_rt (seq_rt ((if_t ?_).trans rfl))
  refine (or_ev (a := false) (not_ev (a := true) (t_ev (bi_ev (args_ev rfl (args_ev rfl args0)) rfl))) fun _ => or_ev (a := true) (b := true) (t_ev (op2_ev (i_lenT rfl) rfl ?_)) fun z => nomatch z).trans rfl
  show (match dEq (.int ds.length) (.int 2) with | some (.bl k) => some (D.bl (!k)) | _ => none) = _
  rw [dEq_i, decide_eq_false (by omega)]
  rfl
theorem is_state_1 {v0 v1 : D} (e : F_is_open [mz rows h w, v0] = ok (.bl false)) : F_is_state [yd rows h w gs, .tup [v0, v1]] = ok (.bl false) := by
  refine runF_rt (seq_rt ((if_t ?_).trans rfl))
  exact (or_ev (a := false) (not_ev (a := true) (t_ev (bi_ev (args_ev rfl (args_ev rfl args0)) rfl))) fun _ => or_ev (a := false) (t_ev (op2_ev (bi1 rfl rfl) rfl rfl)) fun _ => not_ev (a := false) (t_ev (call_ev (args_ev (fld_maze rfl) (args_ev (op2_ev rfl rfl rfl) args0)) e))).trans rfl
theorem is_state_2 {v0 v1 : D} (e : F_is_open [mz rows h w, v0] = ok (.bl true)) (e2 : F_are_cells [mz rows h w, v1] = ok (.bl false)) : F_is_state [yd rows h w gs, .tup [v0, v1]] = ok (.bl false) := by
  refine runF_rt (seq_nx2 (if_nx ?_) (ret_ev ((andV_ev (a := false) (b := false) (call_ev (args_ev (fld_maze rfl) (args_ev (op2_ev rfl rfl rfl) args0)) e2) fun z => nomatch z).trans rfl)))
  exact (or_ev (a := false) (not_ev (a := true) (t_ev (bi_ev (args_ev rfl (args_ev rfl args0)) rfl))) fun _ => or_ev (a := false) (t_ev (op2_ev (bi1 rfl rfl) rfl rfl)) fun _ => not_ev (a := true) (t_ev (call_ev (args_ev (fld_maze rfl) (args_ev (op2_ev rfl rfl rfl) args0)) e))).trans rfl
theorem good_state (R : OkRows rows h w) {n : Nat} (g : Good rows h w c B n) (hn : gs.length = n) (hl : n ≤ 1000) : F_is_state [yd rows h w gs, st c B] = ok (.bl true) := by
  rw [is_state_pts R c B (by rw [g.len]; exact hl), g.oc, areB_good g.asc g.ob, decide_eq_true (by rw [g.len, hn]), decide_eq_false g.nc]
  rfl
theorem check_ok {Y v : D} (e : F_is_state [Y, v] = ok (.bl true)) : F_check_state [Y, v] = ok .non :=
  runF_nx (if_nx ((not_ev (a := true) (t_ev (call_ev (args_ev rfl (args_ev rfl args0)) e))).trans rfl))
theorem check_no {Y v : D} (e : F_is_state [Y, v] = ok (.bl false)) : F_check_state [Y, v] = exc "BadState" :=
  runF_exc ((if_t ((not_ev (a := false) (t_ev (call_ev (args_ev rfl (args_ev rfl args0)) e))).trans rfl)).trans rfl)
/-! ### what a state gives -/
theorem srt_head {l : List P2} {m : P2} (nd : l.Nodup) (hm : m ∈ l) (le : ∀ x ∈ l, leP m x = true) : ∃ t, srt l = m :: t := by
  have a := srt_asc nd
  cases e : srt l with
  | nil => have := srt_mem.mpr hm; rw [e] at this; simp at this
  | cons b t =>
    rw [e] at a
    have hb : b ∈ l := srt_mem.mp (by rw [e]; simp)
    rcases List.mem_cons.mp (show m ∈ b :: t by rw [← e]; exact srt_mem.mpr hm) with q | q
    · exact ⟨t, by rw [q]⟩
    · have l1 := (List.pairwise_cons.mp a).1 m q
      have := lt_not_le l1
      rw [le b hb] at this
      cases this
/-! ### pushes that are told -/
end
end K96

namespace K96
open PySem L2 PP
open PP.Res (ok exc bad)
section
variable {rows : List (List Nat)} {h w : Nat} {gs : List P2} {c : P2} {B : List P2}
/-! ### errors -/
/-! ### yards -/
theorem yard_cnd (R : OkRows rows h w) (l : List P2) (a : Addr) (hl : l.length ≤ 1000) : (mOr (mNot (mT (mCall F_are_cells [(mVar 1), (mVar 2)]))) (mNot (mT (mChain dLeX dLeX (mC (.int 1)) (mBI dLenX [(mVar 2)]) (mC (.int 4)))))) [.me a (.obj "Yard" []), .fz (mz rows h w), .fz (.tup (l.map pt))] = ok (!areB rows h w l || !(decide ((1 : Int) ≤ l.length) && decide ((l.length : Int) ≤ 4))) := by
  refine or_ev (not_ev (t_ev (call_ev (args_ev rfl (args_ev rfl args0)) (are_pts R l hl)))) fun _ => not_ev (t_ev (chain_ev (v := .int l.length) rfl (by have := i_lenT (f := mVar 2) (ρ := [.me a (.obj "Yard" []), .fz (mz rows h w), .fz (.tup (l.map pt))]) (l := l.map pt) rfl; rw [List.length_map] at this; exact this) rfl fun _ => ⟨rfl, rfl⟩))
theorem yard_ok (R : OkRows rows h w) {l : List P2} (hb : areB rows h w l = true) (h1 : 1 ≤ l.length) (h4 : l.length ≤ 4) : F_Yard [mz rows h w, .tup (l.map pt)] = ok (yd rows h w l) := by
  have key : ∀ a, I_Yard a [mz rows h w, .tup (l.map pt)] = ok (yd rows h w l) := fun a => by
    have e : b_Yard [.me a (.obj "Yard" []), .fz (mz rows h w), .fz (.tup (l.map pt))] = .nx [.me a (yd rows h w l), .fz (mz rows h w), .fz (.tup (l.map pt))] := by
      refine seq_nx2 (if_nx ((yard_cnd R l a (by omega)).trans ?_)) rfl
      rw [hb, decide_eq_true (by omega), decide_eq_true (by omega)]
      rfl
    unfold I_Yard PP.runI
    rw [if_pos (by rfl)]
    have e' : b_Yard (.me a (.obj "Yard" []) :: startS (3 - 1) [mz rows h w, .tup (l.map pt)]) = .nx [.me a (yd rows h w l), .fz (mz rows h w), .fz (.tup (l.map pt))] := e
    rw [e']
    show (if a = a then ok (yd rows h w l) else bad) = _
    rw [if_pos rfl]
  unfold F_Yard
  rw [if_pos fun a => (key a).trans (key 0).symm]
  exact key 0
theorem yard_exc {m v : D} (e : ∀ a, (mOr (mNot (mT (mCall F_are_cells [(mVar 1), (mVar 2)]))) (mNot (mT (mChain dLeX dLeX (mC (.int 1)) (mBI dLenX [(mVar 2)]) (mC (.int 4)))))) [.me a (.obj "Yard" []), .fz m, .fz v] = ok true) : F_Yard [m, v] = exc "BadYard" := by
  have key : ∀ a, I_Yard a [m, v] = exc "BadYard" := fun a => by
    have e' : b_Yard (.me a (.obj "Yard" []) :: startS (3 - 1) [m, v]) = .exc "BadYard" [.me a (.obj "Yard" []), .fz m, .fz v] := seq_exc ((if_t (e a)).trans rfl)
    unfold I_Yard PP.runI
    rw [if_pos (by rfl), e']
  unfold F_Yard
  rw [if_pos fun a => (key a).trans (key 0).symm]
  exact key 0
theorem yard_no {m v : D} (e : F_are_cells [m, v] = ok (.bl false)) : F_Yard [m, v] = exc "BadYard" :=
  yard_exc fun a => (or_ev (a := true) (b := true) (not_ev (a := false) (t_ev (call_ev (args_ev rfl (args_ev rfl args0)) e))) fun z => nomatch z).trans rfl
theorem yard_none (R : OkRows rows h w) : F_Yard [mz rows h w, .tup []] = exc "BadYard" :=
  yard_exc fun a => (yard_cnd R [] a (by simp)).trans (by simp)
/-! ### mirrored -/
theorem dRevS_tx {l : List Nat} (hl : l.length ≤ 1000000) : dRevS (tx l) = some (tx l.reverse) := by
  show (if (mkS l).length ≤ sizeLine then some (D.str (revS (mkS l))) else none) = _
  rw [mkS_length, if_pos (by have := size1000; omega)]
  unfold revS
  rw [mkS_cps]
  rfl
theorem rows_rev (R : OkRows rows h w) : OkRows (rows.map List.reverse) h w := by
  refine ⟨by rw [List.length_map]; exact R.len, fun l hl => ?_, fun l hl c hc => ?_, R.h1, R.h2, R.w1, R.w2⟩
  · obtain ⟨r, hr, rfl⟩ := List.mem_map.mp hl
    rw [List.length_reverse]; exact R.wid r hr
  · obtain ⟨r, hr, rfl⟩ := List.mem_map.mp hl
    exact R.sgn r hr c (List.mem_reverse.mp hc)
end
/-! ### the yard that is drawn -/
section
variable {ds : List Int}
def dr (ds : List Int) (i : Nat) : Int := ds.getD i 0
theorem dr_in (hd : Drawn ds) (i : Nat) : 0 ≤ dr ds i ∧ dr ds i < 65521 := by
  unfold dr
  rw [List.getD_eq_getElem?_getD]
  by_cases h : i < ds.length
  · rw [List.getElem?_eq_getElem h]; exact hd _ (List.getElem_mem h)
  · rw [List.getElem?_eq_none (by omega)]; decide
theorem ix_dr {f g : Sls → Res D} {ρ : Sls} {i : Int} (w1 : f ρ = ok (.lst (ds.map .int))) (w2 : g ρ = ok (.int i)) (h0 : 0 ≤ i) (h1 : i < ds.length) : mBI dInt [mOp2 dIxX f g] ρ = ok (.int (dr ds i.toNat)) := by
  refine i_int (op2_ev w1 w2 ?_)
  rw [dIx_lst h0, List.getElem?_map, List.getElem?_eq_getElem (by omega)]
  unfold dr
  rw [List.getD_eq_getElem?_getD, List.getElem?_eq_getElem (by omega)]
  rfl
theorem lit_dh : Str.ofString ".#" = mkS [46, 35] := by decide +kernel
theorem sign_bl {f : Sls → Res D} {ρ : Sls} {b : Bool} (e : f ρ = ok (.bl b)) : mOp2 dIxX (mC (.str ".#")) (mBI dInt [f]) ρ = ok (tx [if b then 35 else 46]) := by
  refine op2_ev rfl (bi1 e rfl) ?_
  rw [lit_dh]
  cases b
  · rw [dIx_tx (by decide) (by decide)]; rfl
  · rw [dIx_tx (by decide) (by decide)]; rfl
theorem join_ones {f : Sls → Res D} {ρ : Sls} {α : Type} (g : α → Nat) (l : List α) (hl : l.length ≤ 1000000) (e : f ρ = ok (.lst (l.map fun k => tx [g k]))) : mM1 dJoin (mC (.str "")) f ρ = ok (tx (l.map g)) := by
  refine m1_ev rfl e ?_
  rw [lit_nil]
  exact dJoin_ones g l hl
theorem mulX_s {f g : Sls → Res D} {ρ : Sls} {x y : Int} (w1 : f ρ = ok (.int x)) (w2 : g ρ = ok (.int y)) (h1 : -1000000000 < y) (h2 : y < 1000000000) : mOp2 dMulX f g ρ = ok (.int (x * y)) := op2_ev w1 w2 ((dMulX_i x y).trans (dMul_sr h1 h2))
theorem mulX_l {f g : Sls → Res D} {ρ : Sls} {x y : Int} (w1 : f ρ = ok (.int x)) (w2 : g ρ = ok (.int y)) (h1 : -1000000000 < x) (h2 : x < 1000000000) : mOp2 dMulX f g ρ = ok (.int (x * y)) := op2_ev w1 w2 ((dMulX_i x y).trans (dMul_sl h1 h2))
theorem dots {W : Nat} (h : W ≤ 5) : dMulX (.str ".") (.int (W : Int)) = some (tx (List.replicate W 46)) := by
  have : W = 0 ∨ W = 1 ∨ W = 2 ∨ W = 3 ∨ W = 4 ∨ W = 5 := by omega
  have key : ∀ z, Txt.mul (Str.ofString ".") (W : Int) = z → dMulX (.str ".") (.int (W : Int)) = some (.str z) := fun z e => by
    show (if (Str.ofString ".").length ≤ 16 ∧ -1000 ≤ (W : Int) ∧ (W : Int) ≤ 1000 then some (D.str (Txt.mul (Str.ofString ".") W)) else none) = _
    rw [if_pos ⟨by decide +kernel, by omega, by omega⟩, e]
  apply key
  rcases this with rfl | rfl | rfl | rfl | rfl | rfl <;> decide +kernel
theorem two_cells {rows : List (List Nat)} {h w : Nat} (h1 : 1 ≤ h) (w2 : 2 ≤ w) (e : ∃ r, rows = List.replicate w 46 :: r) : 2 ≤ (cellsOf rows h w).length := by
  obtain ⟨r, rfl⟩ := e
  have o : ∀ k : Nat, k < 2 → opn (List.replicate w 46 :: r) h w (0, (k : Int)) = true := fun k hk => by
    unfold opn
    rw [Bool.and_eq_true]
    refine ⟨inB_iff.mpr ⟨⟨by show (0 : Int) ≤ 0; omega, by show (0 : Int) < h; omega⟩, by show (0 : Int) ≤ (k : Int); omega, by show (k : Int) < w; omega⟩, decide_eq_true ?_⟩
    unfold chr
    show (List.replicate w 46).getD ((k : Int)).toNat 0 = 46
    rw [Int.toNat_natCast, List.getD_eq_getElem?_getD, List.getElem?_replicate, if_pos (by omega)]
    rfl
  have := nodup_len [((0 : Int), ((0 : Nat) : Int)), ((0 : Int), ((1 : Nat) : Int))] (cellsOf (List.replicate w 46 :: r) h w) (by decide) (fun x hx => by
    rcases List.mem_cons.mp hx with e | e
    · rw [e]; exact mem_cells.mpr (o 0 (by omega))
    · rw [List.mem_singleton.mp e]; exact mem_cells.mpr (o 1 (by omega)))
  exact this
/-- the cells in a drawn order -/
theorem order_ok {cs : List P2} {f t : Sls → Res D} {ρ : Sls} (X : Nat → Int) (h6 : f ρ = ok (.lst (cs.map pt))) (hl : cs.length ≤ 1000) (h6' : ∀ s, f ((ρ.set 12 .no).set 12 s) = ok (.lst (cs.map pt)))
    (hv : ∀ s, mVar 12 ((ρ.set 12 .no).set 12 (.fz s)) = ok s)
    (hx : ∀ k : Nat, k < cs.length → t ((ρ.set 11 .no).set 11 (.fz (.int (k : Int)))) = ok (.int (X k))) (hk : ∀ s, mVar 11 ((ρ.set 11 .no).set 11 (.fz s)) = ok s) :
    ∃ od : List P2, od.Perm cs ∧ mLc (mIt (mBI dSortedX [(mLc (mRng rng1 [(mBI dLenX [f])]) [11] (tgName 11) mYes (mTup [t, (mVar 11)]))])) [12] (tgName 12) mYes (mOp2 dIxX f (mOp2 dIxX (mVar 12) (mC (.int 1)))) ρ = ok (.lst (od.map pt)) := by
  let ps : List P2 := (List.range cs.length).map fun k : Nat => (X k, (k : Int))
  have e1 : mLc (mRng rng1 [(mBI dLenX [f])]) [11] (tgName 11) mYes (mTup [t, (mVar 11)]) ρ = ok (.lst (ps.map pt)) := by
    refine (lc_ev0 (as := List.range cs.length) (emb := fun k : Nat => D.int (k : Int)) (g := fun k => pt (X k, (k : Int))) ?_ fun k hk' => ⟨_, rfl, tup_ev (args_ev (hx k (List.mem_range.mp hk')) (args_ev (hk _) args0))⟩).trans ?_
    · have := i_lenL h6
      rw [List.length_map] at this
      exact (rng_nat this hl).trans (by rw [rangeD0])
    · rw [List.map_map]
      rfl
  refine ⟨(srt ps).map fun p => cs.getD p.2.toNat (0, 0), ?_, ?_⟩
  · have p1 : ((srt ps).map fun p : P2 => cs.getD p.2.toNat (0, 0)).Perm (ps.map fun p : P2 => cs.getD p.2.toNat (0, 0)) := (List.mergeSort_perm ps leP).map _
    have p2 : (ps.map fun p : P2 => cs.getD p.2.toNat (0, 0)) = cs := by
      rw [List.map_map]
      refine List.ext_getElem (by simp) fun i h1 h2 => ?_
      simp [List.getElem?_eq_getElem h2]
    rw [p2] at p1
    exact p1
  · refine (lc_ev0 (as := srt ps) (emb := pt) (g := fun p => pt (cs.getD p.2.toNat (0, 0))) (it_ev (bi1 e1 (sorted_pt ps)) rfl) fun p hp => ⟨_, rfl, op2_ev (h6' _) (op2_ev (hv _) rfl rfl) ?_⟩).trans ?_
    · obtain ⟨k, hk', e⟩ := List.mem_map.mp (srt_mem.mp hp)
      have hk' := List.mem_range.mp hk'
      have e2 : p.2 = (k : Int) := by rw [← e]
      rw [dIx_lst (by omega), e2, Int.toNat_natCast, List.getElem?_map, List.getElem?_eq_getElem hk', List.getD_eq_getElem?_getD, List.getElem?_eq_getElem hk']
      rfl
    · rw [List.map_map]
      rfl
end
end K96

namespace K96
open PySem L2 PP
open PP.Res (ok exc bad)
section
variable {ds : List Int}
theorem minX_i (a b : Int) : dMinX [.int a, .int b] = some (.int (if b < a then b else a)) := rfl
theorem sl_lst_to {f g : Sls → Res D} {ρ : Sls} {l : List D} {k : Int} (w1 : f ρ = ok (.lst l)) (w2 : g ρ = ok (.int k)) (h : 0 ≤ k) : mSl dSl f mNoPart (mPart g) ρ = ok (.lst (l.take k.toNat)) := sl_to w1 w2 (by show some (D.lst (cutD l none (some k))) = _; rw [cutD_to h])
theorem sl_tup_to {f g : Sls → Res D} {ρ : Sls} {l : List D} {k : Int} (w1 : f ρ = ok (.tup l)) (w2 : g ρ = ok (.int k)) (h : 0 ≤ k) : mSl dSl f mNoPart (mPart g) ρ = ok (.tup (l.take k.toNat)) := sl_to w1 w2 (by show some (D.tup (cutD l none (some k))) = _; rw [cutD_to h])
theorem sl_tup_from {f g : Sls → Res D} {ρ : Sls} {l : List D} {k : Int} (w1 : f ρ = ok (.tup l)) (w2 : g ρ = ok (.int k)) (h : 0 ≤ k) : mSl dSl f (mPart g) mNoPart ρ = ok (.tup (l.drop k.toNat)) := sl_from w1 w2 (by show some (D.tup (cutD l (some k) none)) = _; rw [cutD_from h])
theorem sl_lst_both {f g i : Sls → Res D} {ρ : Sls} {l : List D} {j k : Int} (w1 : f ρ = ok (.lst l)) (w2 : i ρ = ok (.int j)) (w3 : g ρ = ok (.int k)) (h : 0 ≤ j) (h2 : 0 ≤ k) : mSl dSl f (mPart i) (mPart g) ρ = ok (.lst ((l.drop j.toNat).take (k.toNat - j.toNat))) := sl_both w1 w2 w3 (by show some (D.lst (cutD l (some j) (some k))) = _; rw [cutD_both h h2])
theorem rows_made (ds : List Int) (hl : 100 ≤ ds.length) {H W : Nat} (s5 s6 s7 s8 s9 s10 s11 s12 : Sl) (hH : H ≤ 14) (hW : W ≤ 14) :
    ∃ g : Nat → Nat → Nat, (∀ r k, g r k = 35 ∨ g r k = 46) ∧ (mBI dTuple [(mLc (mRng rng1 [(mVar 3)]) [10] (tgName 10) mYes (mM1 dJoin (mC (.str "")) (mLc (mRng rng1 [(mVar 4)]) [11] (tgName 11) mYes (mOp2 dIxX (mC (.str ".#")) (mBI dInt [(mOp2 dEq (mOp2 dMod (mOp2 dDiv (mBI dInt [(mOp2 dIxX (mVar 0) (mOp2 dMod (mOp2 dAdd (mOp2 dAdd (mC (.int 2)) (mOp2 dMulX (mC (.int 7)) (mVar 10))) (mVar 11)) (mC (.int 40))))]) (mC (.int 5))) (mC (.int 6))) (mC (.int 0)))])))))]) [.fz (.lst (ds.map .int)), .fz (.int 5), .fz (.int 3), .fz (.int H), .fz (.int W), s5, s6, s7, s8, s9, s10, s11, s12] = ok (rowsD ((List.range H).map fun r => (List.range W).map (g r))) := by
  refine ⟨fun r k => if decide (dr ds ((2 + 7 * (r : Int) + (k : Int)) % 40).toNat / 5 % 6 = 0) then 35 else 46, fun r k => by
    by_cases c : decide (dr ds ((2 + 7 * (r : Int) + (k : Int)) % 40).toNat / 5 % 6 = 0) = true
    · left; exact if_pos c
    · right; exact if_neg c, ?_⟩
  refine bi1 (lc_ev0 (as := List.range H) (emb := fun k : Nat => D.int (k : Int)) (g := fun r : Nat => tx ((List.range W).map fun k : Nat => if decide (dr ds ((2 + 7 * (r : Int) + (k : Int)) % 40).toNat / 5 % 6 = 0) then 35 else 46)) ((rng_nat rfl (by omega)).trans (by rw [rangeD0])) fun r hr => ⟨_, rfl, join_ones (fun k : Nat => if decide (dr ds ((2 + 7 * (r : Int) + (k : Int)) % 40).toNat / 5 % 6 = 0) then 35 else 46) _ (by rw [List.length_range]; omega) (lc_ev0 (as := List.range W) (emb := fun k : Nat => D.int (k : Int)) ((rng_nat rfl (by omega)).trans (by rw [rangeD0])) fun k hk => ⟨_, rfl, sign_bl (op2_ev (i_mod (i_div (ix_dr rfl (i_mod (i_add (i_add rfl (mulX_l rfl rfl (by decide) (by decide))) rfl) rfl (by decide)) (by omega) (by omega)) rfl (by decide) (by decide)) rfl (by decide)) rfl (dEq_i _ _))⟩)⟩) ?_
  show some (D.tup _) = some (D.tup _)
  unfold rowsL
  rw [List.map_map]
  rfl
theorem yard_drawn (hl : 100 ≤ ds.length) (hd : Drawn ds) : ∃ rows h w gs c B n, F__law_yard [.lst (ds.map .int), .int 5, .int 3] = ok (.tup [rowsD rows, .tup (gs.map pt), st c B]) ∧ OkRows rows h w ∧ Good rows h w c B n ∧ areB rows h w gs = true ∧ gs.length = n ∧ 1 ≤ n ∧ n ≤ 3 ∧ h ≤ 5 ∧ w ≤ 5 := by
  have q0 := dr_in hd 0
  have q1 := dr_in hd 1
  obtain ⟨H, hH⟩ : ∃ H : Nat, 2 + dr ds 0 % 4 = (H : Int) := ⟨(2 + dr ds 0 % 4).toNat, by omega⟩
  obtain ⟨W, hW⟩ : ∃ W : Nat, 2 + dr ds 1 % 4 = (W : Int) := ⟨(2 + dr ds 1 % 4).toNat, by omega⟩
  have bH : 2 ≤ H ∧ H ≤ 5 := by omega
  have bW : 2 ≤ W ∧ W ≤ 5 := by omega
  let d0 : D := .lst (ds.map .int)
  have a0 : sAsg (tgTup 2 (tgsCons (tgName 3) (tgsCons (tgName 4) tgsNil))) (mTup [(mOp2 dAdd (mC (.int 2)) (mOp2 dMod (mBI dInt [(mOp2 dIxX (mVar 0) (mC (.int 0)))]) (mOp2 dSub (mVar 1) (mC (.int 1))))), (mOp2 dAdd (mC (.int 2)) (mOp2 dMod (mBI dInt [(mOp2 dIxX (mVar 0) (mC (.int 1)))]) (mOp2 dSub (mVar 1) (mC (.int 1)))))]) (startS 13 [d0, .int 5, .int 3]) = .nx [.fz d0, .fz (.int 5), .fz (.int 3), .fz (.int H), .fz (.int W), .no, .no, .no, .no, .no, .no, .no, .no] := by
    rw [← hH, ← hW]
    exact asg2_ev (tup_ev (args_ev (i_add rfl (i_mod (y := 4) (ix_dr (ds := ds) (i := 0) rfl rfl (by decide) (by omega)) (op2_ev rfl rfl rfl) (by decide))) (args_ev (i_add rfl (i_mod (y := 4) (ix_dr (ds := ds) (i := 1) rfl rfl (by decide) (by omega)) (op2_ev rfl rfl rfl) (by decide))) args0)))
  obtain ⟨g, hg, er⟩ := rows_made ds hl (H := H) (W := W) .no .no .no .no .no .no .no .no (by omega) (by omega)
  let rows0 : List (List Nat) := (List.range H).map fun r => (List.range W).map (g r)
  have R0 : OkRows rows0 H W := by
    refine ⟨by simp [rows0], fun l hl => ?_, fun l hl c hc => ?_, by omega, by omega, by omega, by omega⟩
    · obtain ⟨r, _, rfl⟩ := List.mem_map.mp hl; simp
    · obtain ⟨r, _, rfl⟩ := List.mem_map.mp hl
      obtain ⟨k, _, rfl⟩ := List.mem_map.mp hc
      exact hg r k
  have a1 := set_ev (i := 5) er
  have a2 : sSet 6 (mCall F__law_cells [(mVar 5)]) [.fz d0, .fz (.int 5), .fz (.int 3), .fz (.int H), .fz (.int W), .fz (rowsD rows0), .no, .no, .no, .no, .no, .no, .no] = .nx [.fz d0, .fz (.int 5), .fz (.int 3), .fz (.int H), .fz (.int W), .fz (rowsD rows0), .fz (.lst ((cellsOf rows0 H W).map pt)), .no, .no, .no, .no, .no, .no] := set_ev (call_ev (args_ev rfl args0) (cells_ok R0))
  obtain ⟨rows, R, two, a3⟩ : ∃ rows, OkRows rows H W ∧ 2 ≤ (cellsOf rows H W).length ∧ (sIf (mT (mOp2 dLtX (mBI dLenX [(mVar 6)]) (mC (.int 2)))) (sSeq (sSet 5 (mOp2 dAdd (mTup [(mOp2 dMulX (mC (.str ".")) (mVar 4))]) (mSl dSl (mVar 5) (mPart (mC (.int 1))) mNoPart)))
    (sSet 6 (mCall F__law_cells [(mVar 5)]))) sNx) [.fz d0, .fz (.int 5), .fz (.int 3), .fz (.int H), .fz (.int W), .fz (rowsD rows0), .fz (.lst ((cellsOf rows0 H W).map pt)), .no, .no, .no, .no, .no, .no] = .nx [.fz d0, .fz (.int 5), .fz (.int 3), .fz (.int H), .fz (.int W), .fz (rowsD rows), .fz (.lst ((cellsOf rows H W).map pt)), .no, .no, .no, .no, .no, .no] := by
    have t : (mT (mOp2 dLtX (mBI dLenX [(mVar 6)]) (mC (.int 2)))) [.fz d0, .fz (.int 5), .fz (.int 3), .fz (.int H), .fz (.int W), .fz (rowsD rows0), .fz (.lst ((cellsOf rows0 H W).map pt)), .no, .no, .no, .no, .no, .no] = ok (decide ((cellsOf rows0 H W).length < 2)) := by
      refine (t_lt (i_lenL rfl) rfl).trans ?_
      rw [List.length_map]
      congr 1
      exact decide_eq_decide.mpr (by omega)
    by_cases few : (cellsOf rows0 H W).length < 2
    · rw [decide_eq_true few] at t
      let rows : List (List Nat) := List.replicate W 46 :: rows0.drop 1
      have R : OkRows rows H W := by
        refine ⟨?_, fun l hl => ?_, fun l hl c hc => ?_, by omega, by omega, by omega, by omega⟩
        · show (rows0.drop 1).length + 1 = H
          rw [List.length_drop, R0.len]; omega
        · rcases List.mem_cons.mp hl with e | e
          · rw [e, List.length_replicate]
          · exact R0.wid l (List.mem_of_mem_drop e)
        · rcases List.mem_cons.mp hl with e | e
          · rw [e] at hc; exact .inr (List.eq_of_mem_replicate hc)
          · exact R0.sgn l (List.mem_of_mem_drop e) c hc
      refine ⟨rows, R, two_cells (by omega) bW.1 ⟨_, rfl⟩, (if_t t).trans (seq_nx2 (set_ev (op2_ev (tup_ev (args_ev (op2_ev rfl rfl (dots bW.2)) args0)) (sl_tup_from rfl rfl (by decide)) (c := rowsD rows) ?_)) (set_ev (call_ev (args_ev rfl args0) (cells_ok R))))⟩
      rw [dAdd_t (by rw [List.length_drop, List.length_map, R0.len]; simp; omega)]
      show some (D.tup (_ :: (rows0.map tx).drop 1)) = some (D.tup (tx (List.replicate W 46) :: (rows0.drop 1).map tx))
      rw [List.map_drop]
    · rw [decide_eq_false few] at t
      exact ⟨rows0, R0, by omega, if_nx t⟩
  let cs := cellsOf rows H W
  have lcs : cs.length ≤ 196 := small R.h2 R.w2
  have q41 := dr_in hd 41
  obtain ⟨m, hm⟩ : ∃ m : Int, (if (cs.length : Int) - 1 < 3 then (cs.length : Int) - 1 else 3) = m := ⟨_, rfl⟩
  have pm : 0 < m ∧ m ≤ 3 ∧ m ≤ (cs.length : Int) - 1 := by
    have : 2 ≤ cs.length := two
    split at hm <;> omega
  have u1 := Int.emod_nonneg (dr ds 41) (show m ≠ 0 by omega)
  have u2 := Int.emod_lt_of_pos (dr ds 41) pm.1
  obtain ⟨n, hn⟩ : ∃ n : Nat, 1 + dr ds 41 % m = (n : Int) := ⟨(1 + dr ds 41 % m).toNat, by omega⟩
  have bn : 1 ≤ n ∧ n ≤ 3 ∧ n + 1 ≤ cs.length := by omega
  have a4 : sSet 7 (mOp2 dAdd (mC (.int 1)) (mOp2 dMod (mBI dInt [(mOp2 dIxX (mVar 0) (mC (.int 41)))]) (mBI dMinX [(mVar 2), (mOp2 dSub (mBI dLenX [(mVar 6)]) (mC (.int 1)))]))) [.fz d0, .fz (.int 5), .fz (.int 3), .fz (.int H), .fz (.int W), .fz (rowsD rows), .fz (.lst (cs.map pt)), .no, .no, .no, .no, .no, .no] = .nx [.fz d0, .fz (.int 5), .fz (.int 3), .fz (.int H), .fz (.int W), .fz (rowsD rows), .fz (.lst (cs.map pt)), .fz (.int n), .no, .no, .no, .no, .no] := by
    rw [← hn]
    refine set_ev (i_add rfl (i_mod (y := m) (ix_dr (ds := ds) (i := 41) rfl rfl (by decide) (by omega)) (bi_ev (args_ev rfl (args_ev (i_sub (i_lenL rfl) rfl) args0)) ?_) pm.1))
    rw [List.length_map, minX_i, hm]
  obtain ⟨od, p1, e1⟩ := order_ok (cs := cs) (ρ := [.fz d0, .fz (.int 5), .fz (.int 3), .fz (.int H), .fz (.int W), .fz (rowsD rows), .fz (.lst (cs.map pt)), .fz (.int n), .no, .no, .no, .no, .no]) (f := mVar 6)
    (t := (mOp2 dMod (mOp2 dMulX (mBI dInt [(mOp2 dIxX (mVar 0) (mOp2 dAdd (mC (.int 42)) (mOp2 dMod (mVar 11) (mC (.int 14)))))]) (mOp2 dAdd (mVar 11) (mC (.int 3)))) (mC (.int 1009))))
    (fun k => dr ds (42 + (k : Int) % 14).toNat * ((k : Int) + 3) % 1009) rfl (by omega) (fun s => rfl) (fun s => rfl) (fun k hk => i_mod (mulX_s (ix_dr rfl (i_add rfl (i_mod rfl rfl (by decide))) (by omega) (by omega)) (i_add rfl rfl) (by omega) (by omega)) rfl (by decide)) (fun s => rfl)
  have a5 := set_ev (i := 8) e1
  obtain ⟨ot, p2, e2⟩ := order_ok (cs := cs) (ρ := [.fz d0, .fz (.int 5), .fz (.int 3), .fz (.int H), .fz (.int W), .fz (rowsD rows), .fz (.lst (cs.map pt)), .fz (.int n), .fz (.lst (od.map pt)), .no, .no, .no, .no]) (f := mVar 6)
    (t := (mOp2 dMod (mOp2 dMulX (mBI dInt [(mOp2 dIxX (mVar 0) (mOp2 dAdd (mC (.int 56)) (mOp2 dMod (mVar 11) (mC (.int 14)))))]) (mOp2 dAdd (mVar 11) (mC (.int 5)))) (mC (.int 1009))))
    (fun k => dr ds (56 + (k : Int) % 14).toNat * ((k : Int) + 5) % 1009) rfl (by omega) (fun s => rfl) (fun s => rfl) (fun k hk => i_mod (mulX_s (ix_dr rfl (i_add rfl (i_mod rfl rfl (by decide))) (by omega) (by omega)) (i_add rfl rfl) (by omega) (by omega)) rfl (by decide)) (fun s => rfl)
  have a6 := set_ev (i := 9) e2
  have ncs : cs.Nodup := asc_nd (asc_cells rows H W)
  have nod : od.Nodup := p1.nodup_iff.mpr ncs
  have not' : ot.Nodup := p2.nodup_iff.mpr ncs
  have lod := p1.length_eq
  have lot := p2.length_eq
  have ood : ∀ x ∈ od, opn rows H W x = true := fun x hx => mem_cells.mp (p1.mem_iff.mp hx)
  have oot : ∀ x ∈ ot, opn rows H W x = true := fun x hx => mem_cells.mp (p2.mem_iff.mp hx)
  obtain ⟨c, tl, rfl⟩ : ∃ c tl, ot = c :: tl := by
    cases ot with
    | nil => simp at lot; omega
    | cons c tl => exact ⟨c, tl, rfl⟩
  have nt := List.nodup_cons.mp not'
  simp only [List.length_cons] at lot
  refine ⟨rows, H, W, srt (od.take n), c, srt (tl.take n), n, ?_, R, ⟨oot c (by simp), srt_asc (nt.2.sublist (List.take_sublist _ _)), fun b hb => oot b (List.mem_cons_of_mem _ (List.mem_of_mem_take (srt_mem.mp hb))), fun hc => nt.1 (List.mem_of_mem_take (srt_mem.mp hc)), ?_⟩, areB_good (srt_asc (nod.sublist (List.take_sublist _ _))) (fun x hx => ood x (List.mem_of_mem_take (srt_mem.mp hx))), ?_, bn.1, bn.2.1, bH.2, bW.2⟩
  · refine runF_rt (seq_nx2 a0 (seq_nx2 a1 (seq_nx2 a2 (seq_nx2 a3 (seq_nx2 a4 (seq_nx2 a5 (seq_nx2 a6 (ret_ev ?_))))))))
    refine tup_ev (args_ev rfl (args_ev (bi1 (a := .lst ((srt (od.take n)).map pt)) (bi1 (sl_lst_to rfl rfl (by omega)) ?_) rfl) (args_ev (tup_ev (args_ev (op2_ev rfl rfl ?_) (args_ev (bi1 (a := .lst ((srt (tl.take n)).map pt)) (bi1 (sl_lst_both rfl rfl (i_add rfl rfl) (by decide) (by omega)) ?_) rfl) args0))) args0)))
    · rw [Int.toNat_natCast, ← List.map_take]
      exact sorted_pt _
    · rw [dIx_lst (by decide)]
      rfl
    · rw [show ((n : Int) + 1).toNat - (1 : Int).toNat = n by omega]
      show dSortedX [.lst ((tl.map pt).take n)] = _
      rw [← List.map_take]
      exact sorted_pt _
  · rw [srt_len, List.length_take]; omega
  · rw [srt_len, List.length_take]; omega
end
end K96

namespace K96
open PP
def nxt (rows : List (List Nat)) (h w : Nat) (b : P2) (k : Nat) : Bool := opn rows h w (stp b k) && opn rows h w (stp b (back k))
def outs (rows : List (List Nat)) (h w : Nat) (b : P2) : List P2 := ((List.range 4).filter (nxt rows h w b)).map (stp b)
theorem mem_outs {rows : List (List Nat)} {h w : Nat} {b x : P2} : x ∈ outs rows h w b ↔ ∃ k, k < 4 ∧ nxt rows h w b k = true ∧ stp b k = x := by
  unfold outs
  rw [List.mem_map]
  constructor
  · rintro ⟨k, hk, e⟩
    obtain ⟨h1, h2⟩ := List.mem_filter.mp hk
    exact ⟨k, List.mem_range.mp h1, h2, e⟩
  · rintro ⟨k, h1, h2, e⟩
    exact ⟨k, List.mem_filter.mpr ⟨List.mem_range.mpr h1, h2⟩, e⟩
theorem outs_opn {rows : List (List Nat)} {h w : Nat} {b x : P2} (m : x ∈ outs rows h w b) : opn rows h w x = true := by
  obtain ⟨k, _, h2, e⟩ := mem_outs.mp m
  unfold nxt at h2
  rw [Bool.and_eq_true] at h2
  rw [← e]
  exact h2.1
theorem outs_len (rows : List (List Nat)) (h w : Nat) (b : P2) : (outs rows h w b).length ≤ 4 := by
  unfold outs
  rw [List.length_map]
  exact Nat.le_trans (List.length_filter_le _ _) (by simp)
/-! ### the law's look: from a box to a goal -/
def look (nb : P2 → List P2) (gs : List P2) : Nat → List P2 × List P2 → Option Bool
  | 0, _ => none
  | n + 1, (f, w) => match w.getLast? with
    | none => some false
    | some x => if x ∈ gs then some true else look nb gs n (visit [] (nb x) (f, w.dropLast))
theorem look_ok {nb : P2 → List P2} {U gs : List P2} {s : P2} (hU : ∀ x ∈ U, ∀ y ∈ nb x, y ∈ U) : ∀ (n : Nat) (f w : List P2), Inv nb [] U s (fun _ => False) f w → (∀ x ∈ f, x ∉ w → x ∉ gs) → w.length + 2 * U.length < n + 2 * f.length →
    ∃ b, look nb gs n (f, w) = some b ∧ (b = true ↔ ∃ x, Reach nb [] s x ∧ x ∈ gs)
  | 0, f, w, i, _, h => by
    have := nodup_len f U i.nd i.sub
    omega
  | n + 1, f, w, i, ng, h => by
    unfold look
    cases e : w.getLast? with
    | none =>
      have : w = [] := by simpa using e
      subst this
      refine ⟨false, rfl, fun z => (nomatch z), fun ⟨x, r, hx⟩ => ?_⟩
      have hf : x ∈ f := by
        clear hx
        induction r with
        | here => exact i.start
        | step _ h1 h2 ih => exact i.cl _ ih (by simp) (fun z => z) _ h1 h2
      exact absurd hx (ng x hf (by simp))
    | some x =>
      have hw : w = w.dropLast ++ [x] := by
        obtain ⟨ys, hys⟩ := List.getLast?_eq_some_iff.mp e
        rw [hys, List.dropLast_concat]
      have hx : x ∈ w := by rw [hw]; simp
      have hxf := i.wf x hx
      by_cases hg : x ∈ gs
      · simp only [if_pos hg]
        exact ⟨true, rfl, fun _ => ⟨x, i.reach x hxf, hg⟩, fun _ => rfl⟩
      · simp only [if_neg hg]
        have j : Inv nb [] U s (· = x) f w.dropLast := by
          refine ⟨i.nd, i.sub, i.out, i.start, fun y hy => i.wf y (by rw [hw]; exact List.mem_append_left _ hy), i.reach, fun y hy hn hd => i.cl y hy (fun q => ?_) fun z => z⟩
          rw [hw] at q
          rcases List.mem_append.mp q with q | q
          · exact hn q
          · exact hd (List.mem_singleton.mp q)
        obtain ⟨k1, k2, k3, k4, k5⟩ := visit_inv (i.reach x hxf) (hU x (i.sub x hxf)) (nb x) f w.dropLast (fun _ h => h) j
        have k6 : ∀ y ∈ (visit [] (nb x) (f, w.dropLast)).1, y ∉ (visit [] (nb x) (f, w.dropLast)).2 → y ∈ f ∧ y ∉ w.dropLast := by
          have key : ∀ (cs f w : List P2), (∀ y ∈ w, y ∈ (visit [] cs (f, w)).2) ∧ ∀ y ∈ (visit [] cs (f, w)).1, y ∉ (visit [] cs (f, w)).2 → y ∈ f := by
            intro cs
            induction cs with
            | nil => exact fun f w => ⟨fun _ h => h, fun _ h _ => h⟩
            | cons c cs ih =>
              intro f w
              unfold visit
              by_cases q : c ∉ f ∧ c ∉ ([] : List P2)
              · simp only [if_pos q]
                obtain ⟨i1, i2⟩ := ih (f ++ [c]) (w ++ [c])
                refine ⟨fun y hy => i1 y (List.mem_append_left _ hy), fun y hy hn => ?_⟩
                rcases List.mem_append.mp (i2 y hy hn) with z | z
                · exact z
                · exact absurd (i1 y (List.mem_append_right _ z)) hn
              · simp only [if_neg q]
                exact ih f w
          obtain ⟨i1, i2⟩ := key (nb x) f w.dropLast
          exact fun y hy hn => ⟨i2 y hy hn, fun z => hn (i1 y z)⟩
        have hl : w.length = w.dropLast.length + 1 := by
          have := congrArg List.length hw
          simpa using this
        refine look_ok hU n _ _ ⟨k1.nd, k1.sub, k1.out, k1.start, k1.wf, k1.reach, fun y hy hn _ z hz hB => ?_⟩ (fun y hy hn => ?_) (by omega)
        · by_cases q : y = x
          · rw [q] at hz; exact k3 z hz hB
          · exact k1.cl y hy hn q z hz hB
        · obtain ⟨a, b⟩ := k6 y hy hn
          by_cases q : y = x
          · rw [q]; exact hg
          · refine ng y a fun z => ?_
            rw [hw] at z
            rcases List.mem_append.mp z with z | z
            · exact b z
            · exact q (List.mem_singleton.mp z)
/-! ### the program's rounds -/
def more (rows : List (List Nat)) (h w : Nat) (l : List P2) : List P2 := (cellsOf rows h w).filter fun b => !decide (b ∈ l) && (outs rows h w b).any fun t => decide (t ∈ l)
def grow (rows : List (List Nat)) (h w : Nat) : Nat → List P2 → Option (List P2)
  | 0, _ => none
  | n + 1, l => if more rows h w l = [] then some l else grow rows h w n (l ++ more rows h w l)
def Leads (rows : List (List Nat)) (h w : Nat) (gs : List P2) (b : P2) : Prop := ∃ x, Reach (outs rows h w) [] b x ∧ x ∈ gs
section
variable {rows : List (List Nat)} {h w : Nat} {gs : List P2}
theorem outsU : ∀ x ∈ cellsOf rows h w, ∀ y ∈ outs rows h w x, y ∈ cellsOf rows h w := fun x _ y m => mem_cells.mpr (outs_opn m)
theorem leads_step {b t : P2} (m : t ∈ outs rows h w b) (l : Leads rows h w gs t) : Leads rows h w gs b := by
  obtain ⟨x, r, hx⟩ := l
  exact ⟨x, (Reach.here.step m (by simp)).trans r, hx⟩
theorem grow_ok : ∀ (n : Nat) (l : List P2), l.Nodup → (∀ x ∈ l, x ∈ cellsOf rows h w) → (∀ x ∈ l, Leads rows h w gs x) → (∀ g ∈ gs, g ∈ l) → (cellsOf rows h w).length < n + l.length →
    ∃ r, grow rows h w n l = some r ∧ ∀ x ∈ cellsOf rows h w, x ∈ r ↔ Leads rows h w gs x
  | 0, l, nd, sub, _, _, hf => by
    have := nodup_len l _ nd sub
    omega
  | n + 1, l, nd, sub, le, hg, hf => by
    unfold grow
    by_cases e : more rows h w l = []
    · rw [if_pos e]
      refine ⟨l, rfl, fun x hx => ⟨le x, fun ⟨g, r, hgs⟩ => ?_⟩⟩
      have closed : ∀ b ∈ cellsOf rows h w, ∀ t ∈ outs rows h w b, t ∈ l → b ∈ l := fun b hb t ht hl => by
        by_cases q : b ∈ l
        · exact q
        · have : b ∈ more rows h w l := List.mem_filter.mpr ⟨hb, by rw [Bool.and_eq_true, decide_eq_false q]; exact ⟨rfl, List.any_eq_true.mpr ⟨t, ht, decide_eq_true hl⟩⟩⟩
          rw [e] at this
          simp at this
      have back : ∀ y, Reach (outs rows h w) [] x y → y ∈ l → x ∈ l := fun y r => by
        induction r with
        | here => exact id
        | step r h1 _ ih => exact fun hy => ih (closed _ (r.inU outsU hx) _ h1 hy)
      exact back g r (hg g hgs)
    · rw [if_neg e]
      have hpos : 0 < (more rows h w l).length := List.length_pos_iff.mpr e
      refine grow_ok n (l ++ more rows h w l) ?_ (fun x hx => ?_) (fun x hx => ?_) (fun g hgs => List.mem_append_left _ (hg g hgs)) (by rw [List.length_append]; omega)
      · refine List.nodup_append.mpr ⟨nd, List.Pairwise.sublist List.filter_sublist (asc_nd (asc_cells rows h w)), fun a ha b hb e => ?_⟩
        have := (List.mem_filter.mp hb).2
        rw [← e, decide_eq_true ha] at this
        simp at this
      · rcases List.mem_append.mp hx with q | q
        · exact sub x q
        · exact (List.mem_filter.mp q).1
      · rcases List.mem_append.mp hx with q | q
        · exact le x q
        · have := (List.mem_filter.mp q).2
          rw [Bool.and_eq_true, List.any_eq_true] at this
          obtain ⟨_, t, ht, hl⟩ := this
          exact leads_step ht (le t (of_decide_eq_true hl))
/-! ### dead cells -/
def led (rows : List (List Nat)) (h w : Nat) (gs : List P2) (b : P2) : Bool := (look (outs rows h w) gs 1000 ([b], [b])).getD false
theorem led_ok (h1 : h ≤ 14) (w1 : w ≤ 14) {b : P2} (ob : opn rows h w b = true) : look (outs rows h w) gs 1000 ([b], [b]) = some (led rows h w gs b) ∧ (led rows h w gs b = true ↔ Leads rows h w gs b) := by
  have i : Inv (outs rows h w) [] (cellsOf rows h w) b (fun _ => False) [b] [b] := by
    refine ⟨by simp, fun x hx => ?_, fun x hx => by simp, by simp, fun x hx => hx, fun x hx => ?_, fun x hx hn => absurd hx hn⟩
    · rw [List.mem_singleton.mp hx]; exact mem_cells.mpr ob
    · rw [List.mem_singleton.mp hx]; exact .here
  have sm := small (rows := rows) h1 w1
  obtain ⟨r, e, iff⟩ := look_ok (gs := gs) outsU 1000 [b] [b] i (fun x hx hn => absurd hx hn) (by simp; omega)
  have e2 : led rows h w gs b = r := by unfold led; rw [e]; rfl
  rw [e2]
  exact ⟨e, iff⟩
def dead (rows : List (List Nat)) (h w : Nat) (gs : List P2) : List P2 := (cellsOf rows h w).filter fun b => !led rows h w gs b
theorem mem_dead (h1 : h ≤ 14) (w1 : w ≤ 14) {b : P2} : b ∈ dead rows h w gs ↔ opn rows h w b = true ∧ ¬ Leads rows h w gs b := by
  unfold dead
  rw [List.mem_filter, mem_cells]
  constructor
  · rintro ⟨o, n⟩
    refine ⟨o, fun l => ?_⟩
    rw [((led_ok h1 w1 o).2).mpr l] at n
    cases n
  · rintro ⟨o, n⟩
    refine ⟨o, ?_⟩
    cases e : led rows h w gs b with
    | false => rfl
    | true => exact absurd ((led_ok h1 w1 o).2.mp e) n
theorem dead_asc : Asc (dead rows h w gs) := List.Pairwise.filter _ (asc_cells rows h w)
theorem dead_goal (h1 : h ≤ 14) (w1 : w ≤ 14) {b : P2} (hb : b ∈ dead rows h w gs) : b ∉ gs := fun hg => ((mem_dead h1 w1).mp hb).2 ⟨b, .here, hg⟩
theorem dead_out (h1 : h ≤ 14) (w1 : w ≤ 14) {b t : P2} (hb : b ∈ dead rows h w gs) (ht : t ∈ outs rows h w b) : t ∈ dead rows h w gs :=
  (mem_dead h1 w1).mpr ⟨outs_opn ht, fun l => ((mem_dead h1 w1).mp hb).2 (leads_step ht l)⟩
/-- a list of cells that no way leaves and that has no goal is dead -/
theorem closed_dead (h1 : h ≤ 14) (w1 : w ≤ 14) {v : List P2} (ho : ∀ x ∈ v, opn rows h w x = true) (hg : ∀ x ∈ v, x ∉ gs) (hc : ∀ x ∈ v, ∀ t ∈ outs rows h w x, t ∈ v) : ∀ x ∈ v, x ∈ dead rows h w gs := fun x hx => by
  refine (mem_dead h1 w1).mpr ⟨ho x hx, fun ⟨g, r, hgs⟩ => ?_⟩
  have : g ∈ v := by
    clear hgs
    induction r with
    | here => exact hx
    | step _ h1 _ ih => exact hc _ ih _ h1
  exact hg g this hgs
/-- a push keeps a box in a dead cell -/
theorem push_dead {n : Nat} {c : P2} {B : List P2} (h1 : h ≤ 14) (w1 : w ≤ 14) (g : Good rows h w c B n) {b : P2} {k : Nat} (hb : b ∈ B) (hk : k < 4) (o : okP rows h w B (fnd rows h w c B) b k = true) (hd : ∃ x ∈ B, x ∈ dead rows h w gs) : ∃ x ∈ mov B b k, x ∈ dead rows h w gs := by
  obtain ⟨x, hx, hxd⟩ := hd
  unfold okP at o
  rw [Bool.and_eq_true, Bool.and_eq_true] at o
  obtain ⟨o1, _, o3⟩ := o
  by_cases e : x = b
  · subst e
    refine ⟨stp x k, srt_mem.mpr (List.mem_append_right _ (by simp)), dead_out h1 w1 hxd (mem_outs.mpr ⟨k, hk, ?_, rfl⟩)⟩
    unfold nxt
    rw [Bool.and_eq_true]
    exact ⟨o1, (fnd_ok h1 w1 g.oc g.nc).2.2.2.1 _ (of_decide_eq_true o3)⟩
  · exact ⟨x, srt_mem.mpr (List.mem_append_left _ (List.mem_filter.mpr ⟨hx, by simpa using e⟩)), hxd⟩
end
end K96

namespace K96
open PySem L2 PP
open PP.Res (ok exc bad)
section
variable {rows : List (List Nat)} {h w : Nat} {gs : List P2}
theorem pcells_ok (R : OkRows rows h w) : F_cells [mz rows h w] = ok (.tup ((cellsOf rows h w).map pt)) := by
  refine runF_rt ?_
  have i0 : sSetO 1 (mLst []) (startS 4 [mz rows h w]) = .nx [.fz (mz rows h w), .ow (.lst []), .no, .no] := rfl
  have h14 := R.h2
  have w14 := R.w2
  have it : mRng rng1 [(mFld ["Maze"] "height" (mVar 0))] [.fz (mz rows h w), .ow (.lst []), .no, .no] = ok ((List.range h).map fun k : Nat => D.int (k : Int)) := by
    rw [← rangeD0]; exact rng_nat (fld_height (rows := rows) (h := h) (w := w) rfl) (by omega)
  obtain ⟨ρ', e, s2, s3, e2, hl⟩ := forL_fold (as := List.range h) (emb := fun k : Nat => D.int (k : Int)) (i := 0) (b := ([] : List P2)) (g := fun b r => b ++ rowCells rows w r)
    (st := fun i b ρ => ∃ s2 s3, ρ = [.fz (mz rows h w), .ow (.lst (b.map pt)), s2, s3] ∧ b.length ≤ i * 14)
    (step := fun x ρ => thenF (tgName 2 x ρ).quiet ρ (sExt 1 (mLc (mRng rng1 [(mFld ["Maze"] "width" (mVar 0))]) [3] (tgName 3) (mT (mOp2 dEq (mOp2 dIxX (mOp2 dIxX (mFld ["Maze"] "rows" (mVar 0)) (mVar 2)) (mVar 3)) (mC (.str ".")))) (mTup [(mVar 2), (mVar 3)]))))
    (ρ := [.fz (mz rows h w), .ow (.lst []), .no, .no]) (fun r hr j b ρ hj ⟨s2, s3, e, hb⟩ => by
      subst e
      have hr' := List.mem_range.mp hr
      have hj' : j < 14 := by rw [List.length_range] at hj; omega
      let ρ : Sls := [.fz (mz rows h w), .ow (.lst (b.map pt)), .fz (.int r), s3]
      have lc : mLc (mRng rng1 [(mFld ["Maze"] "width" (mVar 0))]) [3] (tgName 3) (mT (mOp2 dEq (mOp2 dIxX (mOp2 dIxX (mFld ["Maze"] "rows" (mVar 0)) (mVar 2)) (mVar 3)) (mC (.str ".")))) (mTup [(mVar 2), (mVar 3)]) ρ = ok (.lst ((rowCells rows w r).map pt)) := by
        unfold rowCells
        rw [List.map_map]
        refine lc_ev (as := List.range w) (emb := fun k : Nat => D.int (k : Int)) (p := fun k : Nat => decide (chr rows ((r : Int), (k : Int)) = 46)) (g := pt ∘ fun k : Nat => ((r : Int), (k : Int))) ((rng_nat (fld_width (rows := rows) (h := h) (w := w) rfl) (by omega)).trans (by rw [rangeD0])) fun k hk => ⟨(ρ.set 3 .no).set 3 (.fz (.int (k : Int))), rfl, ?_, fun _ => rfl⟩
        have hk' := List.mem_range.mp hk
        exact t_ev (sign_is R (p := ((r : Int), (k : Int))) 46 lit_dot (Int.natCast_nonneg r) (by show (r : Int) < h; omega) (Int.natCast_nonneg k) (by show (k : Int) < w; omega) (fld_rows (rows := rows) (h := h) (w := w) rfl) rfl rfl)
      have l1 := rowCells_len rows w r
      refine ⟨ρ.set 1 (.ow (.lst ((b ++ rowCells rows w r).map pt))), ?_, _, _, rfl, by rw [List.length_append]; omega⟩
      rw [List.map_append]
      exact ext_ev (ρ := ρ) (i := 1) (ds := b.map pt) (es := (rowCells rows w r).map pt) rfl lc (by rw [List.length_map, List.length_map]; omega)) ⟨_, _, rfl, by simp⟩
  refine seq_nx2 i0 (seq_nx2 ((for_ev it).trans e) ?_)
  rw [e2, foldl_flat, List.nil_append]
  exact ret_ev (bi1 (varB_ow rfl) rfl)
theorem steps_ok (R : OkRows rows h w) (b : P2) : F__steps [yd rows h w gs, pt b] = ok (.lst ((outs rows h w b).map pt)) := by
  refine runF_rt ?_
  have i0 : sSetO 2 (mLst []) (startS 5 [yd rows h w gs, pt b]) = .nx [.fz (yd rows h w gs), .fz (pt b), .ow (.lst []), .no, .no] := rfl
  obtain ⟨ρ', e, s3, s4, e2, hl⟩ := forL_fold (as := List.range 4) (emb := fun k : Nat => D.int (k : Int)) (i := 0) (b := ([] : List P2)) (g := fun acc k => if nxt rows h w b k = true then acc ++ [stp b k] else acc)
    (st := fun i acc ρ => ∃ s3 s4, ρ = [.fz (yd rows h w gs), .fz (pt b), .ow (.lst (acc.map pt)), s3, s4] ∧ acc.length ≤ i)
    (step := fun x ρ => thenF (tgName 3 x ρ).quiet ρ (sSeq (sSet 4 (mCall F_ahead [(mVar 1), (mVar 3)]))
    (sIf (mAnd (mT (mCall F_is_open [(mFld ["Yard"] "maze" (mVar 0)), (mVar 4)])) (mT (mCall F_is_open [(mFld ["Yard"] "maze" (mVar 0)), (mCall F_ahead [(mVar 1), (mOp2 dMod (mOp2 dAdd (mVar 3) (mC (.int 2))) (mC (.int 4)))])]))) (sApp 2 (mVar 4)) sNx)))
    (ρ := [.fz (yd rows h w gs), .fz (pt b), .ow (.lst []), .no, .no]) (fun k hk j acc ρ hj ⟨s3, s4, e, hb⟩ => by
      subst e
      have hk := List.mem_range.mp hk
      have hj : j < 4 := by rw [List.length_range] at hj; omega
      let ρ : Sls := [.fz (yd rows h w gs), .fz (pt b), .ow (.lst (acc.map pt)), .fz (.int k), .fz (pt (stp b k))]
      have a : sSet 4 (mCall F_ahead [(mVar 1), (mVar 3)]) [.fz (yd rows h w gs), .fz (pt b), .ow (.lst (acc.map pt)), .fz (.int k), s4] = .nx ρ := set_ev (call_ev (args_ev rfl (args_ev rfl args0)) (ahead_ok b hk))
      have q : (mAnd (mT (mCall F_is_open [(mFld ["Yard"] "maze" (mVar 0)), (mVar 4)])) (mT (mCall F_is_open [(mFld ["Yard"] "maze" (mVar 0)), (mCall F_ahead [(mVar 1), (mOp2 dMod (mOp2 dAdd (mVar 3) (mC (.int 2))) (mC (.int 4)))])]))) ρ = ok (nxt rows h w b k) :=
        and_ev (t_ev (call_ev (args_ev (fld_maze rfl) (args_ev rfl args0)) (is_open_pt R _))) fun _ => t_ev (call_ev (args_ev (fld_maze rfl) (args_ev (call_ev (args_ev rfl (args_ev (i_mod (i_add rfl rfl) rfl) args0)) (by rw [back_i]; exact ahead_ok b (back_lt k))) args0)) (is_open_pt R _))
      by_cases o : nxt rows h w b k = true
      · refine ⟨ρ.set 2 (.ow (.lst ((acc ++ [stp b k]).map pt))), ?_, ?_⟩
        · refine seq_nx2 a ((if_t (by rw [q, o]) : sIf _ _ _ ρ = _).trans ?_)
          rw [List.map_append]
          exact app_ev rfl rfl (by rw [List.length_map]; omega)
        · rw [if_pos o]; exact ⟨_, _, rfl, by rw [List.length_append, List.length_singleton]; omega⟩
      · refine ⟨ρ, seq_nx2 a (if_nx (by rw [q]; simpa using o) : sIf _ _ _ ρ = _), ?_⟩
        rw [if_neg o]; exact ⟨_, _, rfl, by omega⟩) ⟨_, _, rfl, by simp⟩
  refine seq_nx2 i0 (seq_nx2 ((for_ev (rng4 rfl)).trans e) ?_)
  rw [e2, foldl_fm, List.nil_append]
  rfl
theorem in_cells (x : P2) : dInX (pt x) (.lst ((cellsOf rows h w).map pt)) = some (.bl (opn rows h w x)) := by
  rw [inX_lst (in_pt _ _)]
  congr 2
  rw [Bool.eq_iff_iff, decide_eq_true_eq, mem_cells]
theorem lout_ok (R : OkRows rows h w) (b : P2) : F__law_out [rowsD rows, pt b] = ok (.lst ((outs rows h w b).map pt)) := by
  refine runF_rt ?_
  have i0 : sSet 2 (mCall F__law_cells [(mVar 0)]) (startS 4 [rowsD rows, pt b]) = .nx [.fz (rowsD rows), .fz (pt b), .fz (.lst ((cellsOf rows h w).map pt)), .no] := set_ev (call_ev (args_ev rfl args0) (cells_ok R))
  refine seq_nx2 i0 (ret_ev ?_)
  unfold outs
  rw [List.map_map]
  refine lc_ev (as := List.range 4) (emb := fun k : Nat => D.int (k : Int)) (p := nxt rows h w b) (g := pt ∘ stp b) (rng4 rfl) fun k hk => ⟨_, rfl, ?_, fun _ => ?_⟩
  · have hk := List.mem_range.mp hk
    exact and_ev (t_ev (op2_ev (call_ev (args_ev rfl (args_ev rfl args0)) (lstep_ok b hk)) rfl (in_cells _))) fun _ => t_ev (op2_ev (call_ev (args_ev rfl (args_ev (i_mod (i_add rfl rfl) rfl) args0)) (by rw [back_i]; exact lstep_ok b (back_lt k))) rfl (in_cells _))
  · have hk := List.mem_range.mp hk
    exact call_ev (args_ev rfl (args_ev rfl args0)) (lstep_ok b hk)
end
end K96

namespace K96
open PySem L2 PP
open PP.Res (ok exc bad)
section
variable {rows : List (List Nat)} {h w : Nat} {gs : List P2}
theorem visit_loop {S : List P2 → List P2 → Sls → Prop} {step : D → Sls → Fl} {B : List P2} (hs : ∀ c f w ρ, f.length ≤ 400000 → w.length ≤ 400000 → S f w ρ → ∃ ρ', step (pt c) ρ = .nx ρ' ∧ (if c ∉ f ∧ c ∉ B then S (f ++ [c]) (w ++ [c]) ρ' else S f w ρ')) :
    ∀ (cs f w : List P2) (ρ : Sls), f.length + cs.length ≤ 400000 → w.length + cs.length ≤ 400000 → S f w ρ → ∃ ρ', forL step (cs.map pt) ρ = .nx ρ' ∧ S (visit B cs (f, w)).1 (visit B cs (f, w)).2 ρ'
  | [], f, w, ρ, _, _, s => ⟨ρ, rfl, s⟩
  | c :: cs, f, w, ρ, h1, h2, s => by
    simp only [List.length_cons] at h1 h2
    obtain ⟨ρ1, e, s1⟩ := hs c f w ρ (by omega) (by omega) s
    unfold visit
    by_cases q : c ∉ f ∧ c ∉ B
    · rw [if_pos q] at s1
      simp only [if_pos q]
      obtain ⟨ρ2, e2, s2⟩ := visit_loop hs cs (f ++ [c]) (w ++ [c]) ρ1 (by simp; omega) (by simp; omega) s1
      exact ⟨ρ2, (forL_nx e).trans e2, s2⟩
    · rw [if_neg q] at s1
      simp only [if_neg q]
      obtain ⟨ρ2, e2, s2⟩ := visit_loop hs cs f w ρ1 (by omega) (by omega) s1
      exact ⟨ρ2, (forL_nx e).trans e2, s2⟩
theorem pop_ev {i j : Nat} {ρ : Sls} {xs : List D} {x : D} (hi : ρ[i]? = some (.ow (.lst (xs ++ [x])))) : sPop i j ρ = .nx ((ρ.set i (.ow (.lst xs))).set j (.fz x)) := by
  have : popSl i ρ = some (ρ.set i (.ow (.lst xs)), x) := by
    unfold popSl
    rw [hi]
    simp
  unfold sPop
  rw [this]
theorem led_loop (R : OkRows rows h w) (b : P2) : ∀ (n : Nat) (f v : List P2) (s5 s6 : Sl) (r : Bool), f.length + 4 * n ≤ 400000 → v.length + 4 * n ≤ 400000 → look (outs rows h w) gs n (f, v) = some r →
    (r = true → whileN (mT (mOp2 dGtX (mBI dLenX [(mVarB 4)]) (mC (.int 0)))) (sSeq (sPop 4 5)
    (sSeq (sIf (mT (mOp2 dInX (mVar 5) (mVar 1))) (sRet (mC (.bl true))) sNx)
    (sFor (mIt (mCall F__law_out [(mVar 0), (mVar 5)])) (tgName 6)
    (sIf (mT (mOp2 dNotInX (mVar 6) (mVarB 3))) (sSeq (sApp 3 (mVar 6))
    (sApp 4 (mVar 6))) sNx)))) n [.fz (rowsD rows), .fz (.tup (gs.map pt)), .fz (pt b), .ow (.lst (f.map pt)), .ow (.lst (v.map pt)), s5, s6] = .rt (.bl true)) ∧
    (r = false → ∃ ρ', whileN (mT (mOp2 dGtX (mBI dLenX [(mVarB 4)]) (mC (.int 0)))) (sSeq (sPop 4 5)
    (sSeq (sIf (mT (mOp2 dInX (mVar 5) (mVar 1))) (sRet (mC (.bl true))) sNx)
    (sFor (mIt (mCall F__law_out [(mVar 0), (mVar 5)])) (tgName 6)
    (sIf (mT (mOp2 dNotInX (mVar 6) (mVarB 3))) (sSeq (sApp 3 (mVar 6))
    (sApp 4 (mVar 6))) sNx)))) n [.fz (rowsD rows), .fz (.tup (gs.map pt)), .fz (pt b), .ow (.lst (f.map pt)), .ow (.lst (v.map pt)), s5, s6] = .nx ρ')
  | 0, f, v, s5, s6, r, _, _, e => by unfold look at e; cases e
  | n + 1, f, v, s5, s6, r, h1, h2, e => by
    have c0 : ∀ (f v : List P2) (s5 s6 : Sl), mT (mOp2 dGtX (mBI dLenX [(mVarB 4)]) (mC (.int 0))) [.fz (rowsD rows), .fz (.tup (gs.map pt)), .fz (pt b), .ow (.lst (f.map pt)), .ow (.lst (v.map pt)), s5, s6] = ok (decide (0 < v.length)) := fun f v s5 s6 => by
      refine (t_gt (i_lenL (varB_ow rfl)) rfl).trans ?_
      rw [List.length_map]
      congr 1
      exact decide_eq_decide.mpr (by omega)
    unfold look at e
    cases q : v.getLast? with
    | none =>
      rw [q] at e
      have : v = [] := by simpa using q
      subst this
      cases e
      refine ⟨fun z => (nomatch z), fun _ => ⟨[.fz (rowsD rows), .fz (.tup (gs.map pt)), .fz (pt b), .ow (.lst (f.map pt)), .ow (.lst []), s5, s6], ?_⟩⟩
      unfold whileN
      rw [c0, thenF_ok]
      rfl
    | some x =>
      simp only [q] at e
      obtain ⟨ys, hys⟩ := List.getLast?_eq_some_iff.mp q
      subst hys
      rw [List.dropLast_concat] at e
      simp only [List.length_append, List.length_singleton] at h2
      let ρ1 : Sls := [.fz (rowsD rows), .fz (.tup (gs.map pt)), .fz (pt b), .ow (.lst (f.map pt)), .ow (.lst (ys.map pt)), .fz (pt x), s6]
      have p1 : sPop 4 5 [.fz (rowsD rows), .fz (.tup (gs.map pt)), .fz (pt b), .ow (.lst (f.map pt)), .ow (.lst ((ys ++ [x]).map pt)), s5, s6] = .nx ρ1 := pop_ev (xs := ys.map pt) (x := pt x) (by show some (Sl.ow (.lst ((ys ++ [x]).map pt))) = _; rw [List.map_append]; rfl)
      have t : mT (mOp2 dInX (mVar 5) (mVar 1)) ρ1 = ok (decide (x ∈ gs)) := t_ev (op2_ev rfl rfl (inX_tup (in_pt _ _)))
      by_cases hg : x ∈ gs
      · rw [if_pos hg] at e
        cases e
        rw [decide_eq_true hg] at t
        refine ⟨fun _ => ?_, fun z => (nomatch z)⟩
        unfold whileN
        rw [c0, thenF_ok, decide_eq_true (by simp)]
        simp only [if_true]
        rw [seq_nx p1, seq_rt ((if_t t).trans (ret_ev rfl))]
      · rw [if_neg hg] at e
        rw [decide_eq_false hg] at t
        have l := outs_len rows h w x
        obtain ⟨ρ2, e2, s5', s6', r2⟩ := visit_loop (B := []) (S := fun f v ρ => ∃ s5 s6, ρ = [.fz (rowsD rows), .fz (.tup (gs.map pt)), .fz (pt b), .ow (.lst (f.map pt)), .ow (.lst (v.map pt)), s5, s6])
          (step := fun x ρ => thenF (tgName 6 x ρ).quiet ρ (sIf (mT (mOp2 dNotInX (mVar 6) (mVarB 3))) (sSeq (sApp 3 (mVar 6)) (sApp 4 (mVar 6))) sNx)) (fun c f v ρ hf hv ⟨s5, s6, eρ⟩ => by
            subst eρ
            let ρ : Sls := [.fz (rowsD rows), .fz (.tup (gs.map pt)), .fz (pt b), .ow (.lst (f.map pt)), .ow (.lst (v.map pt)), s5, .fz (pt c)]
            have t : mT (mOp2 dNotInX (mVar 6) (mVarB 3)) ρ = ok (!decide (c ∈ f)) := t_ev (op2_ev rfl (varB_ow rfl) (notX_lst (in_pt _ _)))
            by_cases k : c ∈ f
            · rw [decide_eq_true k] at t
              refine ⟨ρ, (if_nx t : sIf _ _ _ ρ = _), ?_⟩
              rw [if_neg (fun z => z.1 k)]
              exact ⟨_, _, rfl⟩
            · rw [decide_eq_false k] at t
              refine ⟨[.fz (rowsD rows), .fz (.tup (gs.map pt)), .fz (pt b), .ow (.lst ((f ++ [c]).map pt)), .ow (.lst ((v ++ [c]).map pt)), s5, .fz (pt c)], ?_, ?_⟩
              · refine (if_t t : sIf _ _ _ ρ = _).trans (seq_nx2 (app_ev (xs := f.map pt) rfl rfl (by rw [List.length_map]; omega)) ((app_ev (xs := v.map pt) rfl rfl (by rw [List.length_map]; omega)).trans ?_))
                rw [List.map_append, List.map_append]
                rfl
              · rw [if_pos ⟨k, by simp⟩]
                exact ⟨_, _, rfl⟩) (outs rows h w x) f ys ρ1 (by omega) (by omega) ⟨_, _, rfl⟩
        obtain ⟨v1, v2⟩ := visit_len [] (outs rows h w x) f ys
        obtain ⟨k1, k2⟩ := led_loop R b n (visit [] (outs rows h w x) (f, ys)).1 (visit [] (outs rows h w x) (f, ys)).2 s5' s6' r (by omega) (by omega) e
        have body : (sSeq (sPop 4 5) (sSeq (sIf (mT (mOp2 dInX (mVar 5) (mVar 1))) (sRet (mC (.bl true))) sNx)
            (sFor (mIt (mCall F__law_out [(mVar 0), (mVar 5)])) (tgName 6) (sIf (mT (mOp2 dNotInX (mVar 6) (mVarB 3))) (sSeq (sApp 3 (mVar 6)) (sApp 4 (mVar 6))) sNx)))) [.fz (rowsD rows), .fz (.tup (gs.map pt)), .fz (pt b), .ow (.lst (f.map pt)), .ow (.lst ((ys ++ [x]).map pt)), s5, s6] = .nx ρ2 :=
          seq_nx2 p1 (seq_nx2 (if_nx t) ((for_ev (it_ev (call_ev (args_ev rfl (args_ev rfl args0)) (lout_ok R x)) rfl)).trans e2))
        subst r2
        constructor
        · intro hr
          have := k1 hr
          unfold whileN
          rw [c0, thenF_ok, decide_eq_true (by simp)]
          simp only [if_true]
          rw [body]
          exact this
        · intro hr
          obtain ⟨ρ', e'⟩ := k2 hr
          refine ⟨ρ', ?_⟩
          unfold whileN
          rw [c0, thenF_ok, decide_eq_true (by simp)]
          simp only [if_true]
          rw [body]
          exact e'
theorem lled_ok (R : OkRows rows h w) {b : P2} (ob : opn rows h w b = true) : F__law_is_led [rowsD rows, .tup (gs.map pt), pt b] = ok (.bl (led rows h w gs b)) := by
  obtain ⟨e, _⟩ := led_ok (gs := gs) R.h2 R.w2 ob
  obtain ⟨k1, k2⟩ := led_loop R b 1000 [b] [b] .no .no _ (by simp) (by simp) e
  have i0 : sParNN 3 4 (mLst [(mVar 2)]) (mLst [(mVar 2)]) (startS 7 [rowsD rows, .tup (gs.map pt), pt b]) = .nx [.fz (rowsD rows), .fz (.tup (gs.map pt)), .fz (pt b), .ow (.lst ([b].map pt)), .ow (.lst ([b].map pt)), .no, .no] := rfl
  cases q : led rows h w gs b with
  | true => exact runF_rt (seq_nx2 i0 (seq_rt (k1 q)))
  | false =>
    obtain ⟨ρ', e'⟩ := k2 q
    exact runF_rt (seq_nx2 i0 (seq_nx2 e' (ret_ev rfl)))
/-! ### dead_cells -/
theorem puts_pts {v : D} : ∀ (qs ps : List P2), (ps ++ qs).Nodup → putsD (ps.map fun p => (pt p, v)) (qs.map fun q => D.tup [pt q, v]) = some ((ps ++ qs).map fun p => (pt p, v))
  | [], ps, _ => by rw [List.append_nil]; rfl
  | q :: qs, ps, nd => by
    have hq : q ∉ ps := fun hm => (List.nodup_append.mp nd).2.2 q hm q (by simp) rfl
    show (keyT (pt q)).bind (fun k => putsD (putD (ps.map fun p => (pt p, v)) (pt q) k v) (qs.map fun q => D.tup [pt q, v])) = _
    rw [keyT_pt, Option.bind_some]
    have e : putD (ps.map fun p => (pt p, v)) (pt q) (kP q) v = (ps ++ [q]).map fun p => (pt p, v) := by
      unfold putD
      rw [lookD_pt (g := fun _ => v), if_neg hq, if_neg (by simp), List.map_append]
      rfl
    rw [e, puts_pts qs (ps ++ [q]) (by rw [List.append_assoc]; exact nd), List.append_assoc]
    rfl
theorem dc_pts {it : Sls → Res (List D)} {i : Nat} {v : D} {ρ : Sls} {ps : List P2} (nd : ps.Nodup) (hi : it ρ = ok (ps.map pt)) (hv : ∀ d, mVar i ((ρ.set i .no).set i (.fz d)) = ok d) : mDc it [i] (tgName i) mYes (mVar i) (mC v) ρ = ok (.dct (ps.map fun p => (pt p, v))) := by
  unfold mDc
  rw [hi]
  simp only [Res.ok_bind]
  rw [compL_all (g := fun p => D.tup [pt p, v]) fun p hp => ?_]
  · have := puts_pts (v := v) ps [] (by simpa using nd)
    simp only [List.map_nil, List.nil_append] at this
    simp only [Res.ok_bind, this]
    rfl
  · unfold lcStep
    show (tgName i (pt p) (wipeS ρ [i]) >>= fun ρ' => mYes ρ' >>= fun b => if b then (mVar i ρ' >>= fun k => mC v ρ' >>= fun v => ok (D.tup [k, v])) >>= fun y => ok (some y) else ok none) = _
    simp only [tgName, wipeS, mYes, Res.ok_bind, if_true]
    rw [hv]
    rfl
theorem puts_loop {S : List P2 → Sls → Prop} {step : D → Sls → Fl} (hs : ∀ c l ρ, c ∉ l → l.length ≤ 400000 → S l ρ → ∃ ρ', step (pt c) ρ = .nx ρ' ∧ S (l ++ [c]) ρ') : ∀ (cs l : List P2) (ρ : Sls), (l ++ cs).Nodup → l.length + cs.length ≤ 400000 → S l ρ → ∃ ρ', forL step (cs.map pt) ρ = .nx ρ' ∧ S (l ++ cs) ρ'
  | [], l, ρ, _, _, s => ⟨ρ, rfl, by rw [List.append_nil]; exact s⟩
  | c :: cs, l, ρ, nd, hl, s => by
    simp only [List.length_cons] at hl
    obtain ⟨ρ1, e1, s1⟩ := hs c l ρ (fun hm => (List.nodup_append.mp nd).2.2 c hm c (by simp) rfl) (by omega) s
    obtain ⟨ρ2, e2, s2⟩ := puts_loop hs cs (l ++ [c]) ρ1 (by rw [List.append_assoc]; exact nd) (by simp; omega) s1
    exact ⟨ρ2, (forL_nx e1).trans e2, by rw [List.append_assoc] at s2; exact s2⟩
abbrev kvs (l : List P2) : D := .dct (l.map fun p => (pt p, .bl true))
theorem more_disj {l : List P2} (nd : l.Nodup) : (l ++ more rows h w l).Nodup := List.nodup_append.mpr ⟨nd, List.Pairwise.sublist List.filter_sublist (asc_nd (asc_cells rows h w)), fun a ha b hb e => by
  have := (List.mem_filter.mp hb).2
  rw [← e, decide_eq_true ha] at this
  simp at this⟩
theorem grow_loop (R : OkRows rows h w) : ∀ (n : Nat) (l : List P2) (s4 s5 s6 s7 : Sl) (r : List P2), l.Nodup → l.length + 196 * n ≤ 300000 → grow rows h w n l = some r →
    ∃ s3 s4' s5' s6' s7', whileN (mT (mVar 3)) (sSeq (sSet 4 (mLc (mIt (mVar 1)) [5] (tgName 5) (mAnd (mT (mOp2 dNotInX (mVar 5) (mVarB 2))) (mT (mBI dAny [(mLc (mIt (mCall F__steps [(mVar 0), (mVar 5)])) [7] (tgName 7) mYes (mOp2 dInX (mVar 7) (mVarB 2)))]))) (mVar 5)))
    (sSeq (sFor (mIt (mVar 4)) (tgName 5)
    (sPut 2 (mVar 5) (mC (.bl true))))
    (sSet 3 (mOp2 dGtX (mBI dLenX [(mVar 4)]) (mC (.int 0)))))) (n + 1) [.fz (yd rows h w gs), .fz (.tup ((cellsOf rows h w).map pt)), .ow (kvs l), .fz (.bl true), s4, s5, s6, s7] = .nx [.fz (yd rows h w gs), .fz (.tup ((cellsOf rows h w).map pt)), .ow (kvs r), s3, s4', s5', s6', s7']
  | 0, l, s4, s5, s6, s7, r, _, _, e => by unfold grow at e; cases e
  | n + 1, l, s4, s5, s6, s7, r, nd, hl, e => by
    have sm := small (rows := rows) R.h2 R.w2
    have ml : (more rows h w l).length ≤ 196 := Nat.le_trans (List.length_filter_le _ _) sm
    let ρ : Sls := [.fz (yd rows h w gs), .fz (.tup ((cellsOf rows h w).map pt)), .ow (kvs l), .fz (.bl true), s4, s5, s6, s7]
    have b1 : sSet 4 (mLc (mIt (mVar 1)) [5] (tgName 5) (mAnd (mT (mOp2 dNotInX (mVar 5) (mVarB 2))) (mT (mBI dAny [(mLc (mIt (mCall F__steps [(mVar 0), (mVar 5)])) [7] (tgName 7) mYes (mOp2 dInX (mVar 7) (mVarB 2)))]))) (mVar 5)) ρ = .nx [.fz (yd rows h w gs), .fz (.tup ((cellsOf rows h w).map pt)), .ow (kvs l), .fz (.bl true), .fz (.lst ((more rows h w l).map pt)), s5, s6, s7] := by
      refine set_ev (lc_ev (as := cellsOf rows h w) (emb := pt) (p := fun b => !decide (b ∈ l) && (outs rows h w b).any fun t => decide (t ∈ l)) (g := pt) (it_ev rfl rfl) fun b hb => ⟨_, rfl, and_ev (t_ev (op2_ev rfl (varB_ow rfl) (notX_dct b l))) fun _ => t_ev (bi1 (lc_ev0 (as := outs rows h w b) (emb := pt) (g := fun t => D.bl (decide (t ∈ l))) (it_ev (call_ev (args_ev rfl (args_ev rfl args0)) (steps_ok R b)) rfl) fun t ht => ⟨_, rfl, op2_ev rfl (varB_ow rfl) (inX_dct t l)⟩) (dAny_map _ _)), fun _ => rfl⟩)
    obtain ⟨ρ2, e2, s5', r2⟩ := puts_loop (S := fun l' ρ => ∃ s5, ρ = [.fz (yd rows h w gs), .fz (.tup ((cellsOf rows h w).map pt)), .ow (kvs l'), .fz (.bl true), .fz (.lst ((more rows h w l).map pt)), s5, s6, s7])
      (step := fun x ρ => thenF (tgName 5 x ρ).quiet ρ (sPut 2 (mVar 5) (mC (.bl true)))) (fun c l' ρ hc hl' ⟨s5, eρ⟩ => by
        subst eρ
        exact ⟨_, (put_pt (k := fun _ => .bl true) (ρ := [.fz (yd rows h w gs), .fz (.tup ((cellsOf rows h w).map pt)), .ow (kvs l'), .fz (.bl true), .fz (.lst ((more rows h w l).map pt)), .fz (pt c), s6, s7]) (i := 2) (p := c) rfl rfl rfl hc (by omega) : sPut 2 (mVar 5) (mC (.bl true)) _ = _), _, rfl⟩) (more rows h w l) l [.fz (yd rows h w gs), .fz (.tup ((cellsOf rows h w).map pt)), .ow (kvs l), .fz (.bl true), .fz (.lst ((more rows h w l).map pt)), s5, s6, s7] (more_disj nd) (by omega) ⟨_, rfl⟩
    subst r2
    have g3 : mOp2 dGtX (mBI dLenX [(mVar 4)]) (mC (.int 0)) [.fz (yd rows h w gs), .fz (.tup ((cellsOf rows h w).map pt)), .ow (kvs (l ++ more rows h w l)), .fz (.bl true), .fz (.lst ((more rows h w l).map pt)), s5', s6, s7] = ok (.bl (decide (0 < (more rows h w l).length))) := by
      refine op2_ev (i_lenL rfl) rfl ?_
      rw [dGtX_i, List.length_map]
      congr 2
      exact decide_eq_decide.mpr (by omega)
    have body := seq_nx2 b1 (seq_nx2 ((for_ev (it_ev (f := mVar 4) (u := .lst ((more rows h w l).map pt)) rfl rfl)).trans e2) (set_ev (i := 3) g3))
    have run : ∀ m, whileN (mT (mVar 3)) (sSeq (sSet 4 (mLc (mIt (mVar 1)) [5] (tgName 5) (mAnd (mT (mOp2 dNotInX (mVar 5) (mVarB 2))) (mT (mBI dAny [(mLc (mIt (mCall F__steps [(mVar 0), (mVar 5)])) [7] (tgName 7) mYes (mOp2 dInX (mVar 7) (mVarB 2)))]))) (mVar 5)))
    (sSeq (sFor (mIt (mVar 4)) (tgName 5)
    (sPut 2 (mVar 5) (mC (.bl true))))
    (sSet 3 (mOp2 dGtX (mBI dLenX [(mVar 4)]) (mC (.int 0)))))) (m + 1) ρ = whileN (mT (mVar 3)) (sSeq (sSet 4 (mLc (mIt (mVar 1)) [5] (tgName 5) (mAnd (mT (mOp2 dNotInX (mVar 5) (mVarB 2))) (mT (mBI dAny [(mLc (mIt (mCall F__steps [(mVar 0), (mVar 5)])) [7] (tgName 7) mYes (mOp2 dInX (mVar 7) (mVarB 2)))]))) (mVar 5)))
    (sSeq (sFor (mIt (mVar 4)) (tgName 5)
    (sPut 2 (mVar 5) (mC (.bl true))))
    (sSet 3 (mOp2 dGtX (mBI dLenX [(mVar 4)]) (mC (.int 0)))))) m [.fz (yd rows h w gs), .fz (.tup ((cellsOf rows h w).map pt)), .ow (kvs (l ++ more rows h w l)), .fz (.bl (decide (0 < (more rows h w l).length))), .fz (.lst ((more rows h w l).map pt)), s5', s6, s7] := fun m => by
      conv => lhs; unfold whileN
      rw [show mT (mVar 3) ρ = ok true from rfl, thenF_ok]
      simp only [if_true]
      rw [body]
      rfl
    rw [run]
    unfold grow at e
    by_cases q : more rows h w l = []
    · rw [if_pos q] at e
      cases e
      rw [q, List.append_nil]
      refine ⟨.fz (.bl false), .fz (.lst []), s5', s6, s7, ?_⟩
      unfold whileN
      rfl
    · rw [if_neg q] at e
      rw [decide_eq_true (List.length_pos_iff.mpr q)]
      exact grow_loop R n (l ++ more rows h w l) _ _ _ _ r (more_disj nd) (by rw [List.length_append]; omega) e
theorem dead_ok (R : OkRows rows h w) (ga : areB rows h w gs = true) : F_dead_cells [yd rows h w gs] = ok (.tup ((dead rows h w gs).map pt)) := by
  obtain ⟨ga1, ga2⟩ := Bool.and_eq_true_iff.mp (show (gs.all (opn rows h w) && adj gs) = true from ga)
  have nd := asc_nd (adj_iff.mp ga2)
  have go : ∀ g ∈ gs, opn rows h w g = true := fun g hg => List.all_eq_true.mp ga1 g hg
  have sm := small (rows := rows) R.h2 R.w2
  have gl := nodup_len gs (cellsOf rows h w) nd fun x hx => mem_cells.mpr (go x hx)
  obtain ⟨r, e, iff⟩ := grow_ok (gs := gs) 999 gs nd (fun x hx => mem_cells.mpr (go x hx)) (fun x hx => ⟨x, .here, hx⟩) (fun g hg => hg) (by omega)
  obtain ⟨s3, s4, s5, s6, s7, e2⟩ := grow_loop (gs := gs) R 999 gs .no .no .no .no r nd (by omega) e
  have i0 : sSet 1 (mCall F_cells [(mFld ["Yard"] "maze" (mVar 0))]) (startS 8 [yd rows h w gs]) = .nx [.fz (yd rows h w gs), .fz (.tup ((cellsOf rows h w).map pt)), .no, .no, .no, .no, .no, .no] := set_ev (call_ev (args_ev (fld_maze rfl) args0) (pcells_ok R))
  have i1 : sSetO 2 (mDc (mIt (mFld ["Yard"] "goals" (mVar 0))) [6] (tgName 6) mYes (mVar 6) (mC (.bl true))) [.fz (yd rows h w gs), .fz (.tup ((cellsOf rows h w).map pt)), .no, .no, .no, .no, .no, .no] = .nx [.fz (yd rows h w gs), .fz (.tup ((cellsOf rows h w).map pt)), .ow (kvs gs), .no, .no, .no, .no, .no] := setO_ev (dc_pts nd (it_ev (fld_goals (rows := rows) (h := h) (w := w) (gs := gs) rfl) rfl) fun _ => rfl)
  have lc : mLc (mIt (mVar 1)) [5] (tgName 5) (mT (mOp2 dNotInX (mVar 5) (mVarB 2))) (mVar 5) [.fz (yd rows h w gs), .fz (.tup ((cellsOf rows h w).map pt)), .ow (kvs r), s3, s4, s5, s6, s7] = ok (.lst ((dead rows h w gs).map pt)) := by
    refine (lc_ev (as := cellsOf rows h w) (emb := pt) (p := fun b => !decide (b ∈ r)) (g := pt) (it_ev rfl rfl) fun b hb => ⟨_, rfl, t_ev (op2_ev rfl (varB_ow rfl) (notX_dct b r)), fun _ => rfl⟩).trans ?_
    unfold dead
    congr 3
    refine List.filter_congr fun b hb => ?_
    congr 1
    rw [Bool.eq_iff_iff, decide_eq_true_eq, (led_ok R.h2 R.w2 (mem_cells.mp hb)).2]
    exact iff b hb
  exact runF_rt (seq_nx2 i0 (seq_nx2 i1 (seq_nx2 rfl (seq_nx2 e2 (ret_ev (bi1 lc rfl))))))
end
end K96

namespace K96
open PySem L2 PP
open PP.Res (ok exc bad)
section
variable {rows : List (List Nat)} {h w : Nat} {gs : List P2}
theorem eqvs_qP : ∀ l m : List P2, PyData.eqvAll (l.map qP) (m.map qP) = decide (l = m)
  | [], [] => by simp [PyData.eqvAll]
  | [], _ :: _ => by simp [PyData.eqvAll]
  | _ :: _, [] => by simp [PyData.eqvAll]
  | a :: l, b :: m => by
    simp only [List.map_cons, PyData.eqvAll, eqv_qP, eqvs_qP l m]
    rw [Bool.eq_iff_iff]
    simp
theorem toPDs_pts (l : List P2) : toPDs (l.map pt) = some (l.map qP) := toPDs_map fun a _ => toPD_ptQ a
theorem sh_pts (l : List P2) : ∀ d ∈ l.map qP, Sh 1 d := fun d hd => by
  obtain ⟨a, _, rfl⟩ := List.mem_map.mp hd
  exact sh_qP a
theorem dEq_lpts (l m : List P2) : dEq (.lst (l.map pt)) (.lst (m.map pt)) = some (.bl (decide (l = m))) := by
  show (deepEq (.lst (l.map pt)) (.lst (m.map pt))).map D.bl = _
  unfold deepEq
  have e : ∀ l : List P2, toPD (.lst (l.map pt)) = some (.list (l.map qP)) := fun l => by simp [toPD, toPDs_pts]
  rw [e, e, Option.bind_some, Option.bind_some, (Sh.lst (sh_pts l)).shaped, (Sh.lst (sh_pts m)).shaped, Bool.and_self, if_pos rfl]
  show some (D.bl (PyData.eqv (.list (l.map qP)) (.list (m.map qP)))) = _
  congr 2
  rw [← eqvs_qP]
  simp [PyData.eqv]
theorem dEq_tpts (l m : List P2) : dEq (.tup (l.map pt)) (.tup (m.map pt)) = some (.bl (decide (l = m))) := by
  show (deepEq (.tup (l.map pt)) (.tup (m.map pt))).map D.bl = _
  unfold deepEq
  have e : ∀ l : List P2, toPD (.tup (l.map pt)) = some (.tuple (l.map qP)) := fun l => by simp [toPD, toPDs_pts]
  rw [e, e, Option.bind_some, Option.bind_some, (Sh.tup (sh_pts l)).shaped, (Sh.tup (sh_pts m)).shaped, Bool.and_self, if_pos rfl]
  show some (D.bl (PyData.eqv (.tuple (l.map qP)) (.tuple (m.map qP)))) = _
  congr 2
  rw [← eqvs_qP]
  simp [PyData.eqv]
/-! ### what a fault is -/
def badB (gs : List P2) (c : P2) : Bool := decide (c ∈ gs)
def outB (rows : List (List Nat)) (h w : Nat) (v : List P2) (c : P2) : Bool := !(outs rows h w c).all fun t => decide (t ∈ v)
def fres (rows : List (List Nat)) (h w : Nat) (gs v : List P2) : D := if areB rows h w v = true then (match v.find? (badB gs) with
  | some c => .tup [.str "goal", pt c]
  | none => (match v.find? (outB rows h w v) with
    | some c => .tup [.str "out", pt c]
    | none => .non)) else .str "form"
theorem forL_rt {step : D → Sls → Fl} {x d : D} {xs : List D} {ρ : Sls} (e : step x ρ = .rt d) : forL step (x :: xs) ρ = .rt d := by
  conv => lhs; unfold forL; rw [e]
theorem find_loop {p : P2 → Bool} {S : Sls → Prop} {step : D → Sls → Fl} {g : P2 → D} (hs : ∀ c ρ, S ρ → (p c = true → step (pt c) ρ = .rt (g c)) ∧ (p c = false → ∃ ρ', step (pt c) ρ = .nx ρ' ∧ S ρ')) : ∀ (v : List P2) (ρ : Sls), S ρ →
    (∀ c, v.find? p = some c → forL step (v.map pt) ρ = .rt (g c)) ∧ (v.find? p = none → ∃ ρ', forL step (v.map pt) ρ = .nx ρ' ∧ S ρ')
  | [], ρ, s => ⟨fun c e => by simp at e, fun _ => ⟨ρ, rfl, s⟩⟩
  | a :: v, ρ, s => by
    obtain ⟨k1, k2⟩ := hs a ρ s
    rw [List.find?_cons]
    cases q : p a with
    | true =>
      refine ⟨fun c e => ?_, fun e => by simp at e⟩
      simp only [Option.some.injEq] at e
      subst e
      exact forL_rt (k1 q)
    | false =>
      obtain ⟨ρ1, e1, s1⟩ := k2 q
      obtain ⟨i1, i2⟩ := find_loop hs v ρ1 s1
      refine ⟨fun c e => (forL_nx e1).trans (i1 c e), fun e => ?_⟩
      obtain ⟨ρ2, e2, s2⟩ := i2 e
      exact ⟨ρ2, (forL_nx e1).trans e2, s2⟩
theorem all_outs {f : Sls → Res (List D)} {i : Nat} {k : Sls → Res D} {ρ : Sls} (v : List P2) (c : P2) (hi : f ρ = ok ((outs rows h w c).map pt)) (hv : ∀ d, mVar i ((ρ.set i .no).set i (.fz d)) = ok d) (hk : ∀ s, k ((ρ.set i .no).set i s) = ok (.tup (v.map pt))) :
    mNot (mT (mBI dAll [(mLc f [i] (tgName i) mYes (mOp2 dInX (mVar i) k))])) ρ = ok (outB rows h w v c) :=
  not_ev (t_ev (bi1 (lc_ev0 (as := outs rows h w c) (emb := pt) (g := fun t => D.bl (decide (t ∈ v))) hi fun t ht => ⟨_, rfl, op2_ev (hv _) (hk _) (inX_tup (in_pt _ _))⟩) (dAll_map _ _)))
theorem fault_ok (R : OkRows rows h w) (v : List P2) (hl : v.length ≤ 1000) : F_dead_fault [yd rows h w gs, .tup (v.map pt)] = ok (fres rows h w gs v) := by
  have cnd : (mNot (mT (mCall F_are_cells [(mFld ["Yard"] "maze" (mVar 0)), (mVar 1)]))) (startS 4 [yd rows h w gs, .tup (v.map pt)]) = ok (!areB rows h w v) := not_ev (t_ev (call_ev (args_ev (fld_maze rfl) (args_ev rfl args0)) (are_pts R v hl)))
  unfold fres
  cases q : areB rows h w v with
  | false => exact runF_rt (seq_rt ((if_t (cnd.trans (by rw [q]; rfl))).trans (ret_ev rfl)))
  | true =>
    have c0 := cnd.trans (show ok (!areB rows h w v) = ok false by rw [q]; rfl)
    obtain ⟨k1, k2⟩ := find_loop (p := badB gs) (g := fun c => D.tup [.str "goal", pt c]) (S := fun ρ => ∃ s2 s3, ρ = [.fz (yd rows h w gs), .fz (.tup (v.map pt)), s2, s3])
      (step := fun x ρ => thenF (tgName 2 x ρ).quiet ρ (sIf (mT (mOp2 dInX (mVar 2) (mFld ["Yard"] "goals" (mVar 0)))) (sRet (mTup [(mC (.str "goal")), (mVar 2)])) sNx)) (fun c ρ ⟨s2, s3, e⟩ => by
        subst e
        have t : mT (mOp2 dInX (mVar 2) (mFld ["Yard"] "goals" (mVar 0))) [.fz (yd rows h w gs), .fz (.tup (v.map pt)), .fz (pt c), s3] = ok (badB gs c) := t_ev (op2_ev rfl (fld_goals (rows := rows) (h := h) (w := w) (gs := gs) rfl) (inX_tup (in_pt _ _)))
        exact ⟨fun z => (if_t (t.trans (by rw [z])) : sIf _ _ _ [.fz (yd rows h w gs), .fz (.tup (v.map pt)), .fz (pt c), s3] = _).trans (ret_ev (tup_ev (args_ev rfl (args_ev rfl args0)))), fun z => ⟨_, (if_nx (t.trans (by rw [z])) : sIf _ _ _ [.fz (yd rows h w gs), .fz (.tup (v.map pt)), .fz (pt c), s3] = _), _, _, rfl⟩⟩) v _ ⟨.no, .no, rfl⟩
    rw [if_pos rfl]
    cases f1 : v.find? (badB gs) with
    | some c => exact runF_rt (seq_nx2 (if_nx c0) (seq_rt ((for_ev (it_ev rfl rfl)).trans (k1 c f1))))
    | none =>
      obtain ⟨ρ1, e1, s2, s3, rfl⟩ := k2 f1
      obtain ⟨j1, j2⟩ := find_loop (p := outB rows h w v) (g := fun c => D.tup [.str "out", pt c]) (S := fun ρ => ∃ s2 s3, ρ = [.fz (yd rows h w gs), .fz (.tup (v.map pt)), s2, s3])
        (step := fun x ρ => thenF (tgName 2 x ρ).quiet ρ (sIf (mNot (mT (mBI dAll [(mLc (mIt (mCall F__steps [(mVar 0), (mVar 2)])) [3] (tgName 3) mYes (mOp2 dInX (mVar 3) (mVar 1)))]))) (sRet (mTup [(mC (.str "out")), (mVar 2)])) sNx)) (fun c ρ ⟨s2, s3, e⟩ => by
          subst e
          have t : mNot (mT (mBI dAll [(mLc (mIt (mCall F__steps [(mVar 0), (mVar 2)])) [3] (tgName 3) mYes (mOp2 dInX (mVar 3) (mVar 1)))])) [.fz (yd rows h w gs), .fz (.tup (v.map pt)), .fz (pt c), s3] = ok (outB rows h w v c) := all_outs v c (it_ev (call_ev (args_ev rfl (args_ev rfl args0)) (steps_ok R c)) rfl) (fun _ => rfl) fun _ => rfl
          exact ⟨fun z => (if_t (t.trans (by rw [z])) : sIf _ _ _ [.fz (yd rows h w gs), .fz (.tup (v.map pt)), .fz (pt c), s3] = _).trans (ret_ev (tup_ev (args_ev rfl (args_ev rfl args0)))), fun z => ⟨_, (if_nx (t.trans (by rw [z])) : sIf _ _ _ [.fz (yd rows h w gs), .fz (.tup (v.map pt)), .fz (pt c), s3] = _), _, _, rfl⟩⟩) v _ ⟨s2, s3, rfl⟩
      simp only []
      cases f2 : v.find? (outB rows h w v) with
      | some c => exact runF_rt (seq_nx2 (if_nx c0) (seq_nx2 ((for_ev (it_ev rfl rfl)).trans e1) (seq_rt ((for_ev (it_ev rfl rfl)).trans (j1 c f2)))))
      | none =>
        obtain ⟨ρ2, e2, s2', s3', rfl⟩ := j2 f2
        exact runF_rt (seq_nx2 (if_nx c0) (seq_nx2 ((for_ev (it_ev rfl rfl)).trans e1) (seq_nx2 ((for_ev (it_ev rfl rfl)).trans e2) (ret_ev rfl))))
theorem fault_no {v : D} {cs : List P2} (e : F_are_cells [mz rows h w, v] = ok (.bl false)) : F_dead_fault [yd rows h w cs, v] = ok (.str "form") :=
  runF_rt (seq_rt ((if_t ((not_ev (a := false) (t_ev (call_ev (args_ev (fld_maze rfl) (args_ev rfl args0)) e))).trans rfl)).trans (ret_ev rfl)))
/-! ### the law's look -/
theorem lfault_nt {r g v : D} (e : dIsi [v, .ty "tuple"] = some (.bl false)) : F__law_fault [r, g, v] = ok (.str "form") :=
  runF_rt (seq_rt ((if_t ((not_ev (a := false) (t_ev (bi_ev (args_ev rfl (args_ev rfl args0)) e))).trans rfl)).trans (ret_ev rfl)))
theorem lfault_true {r g : D} : F__law_fault [r, g, .tup [.bl true]] = ok (.str "form") := by
  refine runF_rt (seq_nx2 (if_nx ((not_ev (a := true) (t_ev (bi_ev (args_ev rfl (args_ev rfl args0)) rfl))).trans rfl)) (seq_rt ((for_ev (it_ev rfl rfl)).trans ?_)))
  refine forL_rt ?_
  have z : sIf (mOr (mNot (mT (mBI dIsi [(mVar 3), (mC (.ty "tuple"))]))) (mOr (mT (mOp2 dNe (mBI dLenX [(mVar 3)]) (mC (.int 2)))) (mOr (mNot (mT (mBI dAll [(mLc (mIt (mVar 3)) [6] (tgName 6) mYes (mAndV (mBI dIsi [(mVar 6), (mC (.ty "int"))]) (mNotV (mBI dIsi [(mVar 6), (mC (.ty "bool"))]))))]))) (mT (mOp2 dNotInX (mVar 3) (mCall F__law_cells [(mVar 0)])))))) (sRet (mC (.str "form"))) sNx [.fz r, .fz g, .fz (.tup [.bl true]), .fz (.bl true), .no, .no, .no, .no] = .rt (.str "form") :=
    (if_t ((or_ev (a := true) (b := true) (not_ev (a := false) (t_ev (bi_ev (args_ev rfl (args_ev rfl args0)) rfl))) fun z => nomatch z).trans rfl)).trans (ret_ev rfl)
  exact z
theorem srt_nodups {v : List P2} (ho : ∀ x ∈ v, opn rows h w x = true) : decide (v = (nodups v).mergeSort leP) = areB rows h w v := by
  unfold areB
  rw [List.all_eq_true.mpr ho, Bool.true_and, Bool.eq_iff_iff, decide_eq_true_eq, adj_iff]
  constructor
  · intro e
    rw [e]
    exact srt_asc (nd_nodups v)
  · intro a
    exact asc_eq a (srt_asc (nd_nodups v)) fun x => by rw [srt_mem, mem_nodups]
theorem prs_pts : ∀ v : List P2, prs (v.map pt) = some v
  | [] => rfl
  | p :: v => by
    show (prs (v.map pt)).map (fun ps => (p.1, p.2) :: ps) = _
    rw [prs_pts v]
    rfl
theorem dSS_pts {v : List P2} (hl : v.length < 64) (hb : ∀ p ∈ v, below p) : dSS [.tup (v.map pt)] = some (.lst (((nodups v).mergeSort leP).map pt)) := by
  show ((prs (v.map pt)).bind fun ps => if ps.length < 64 ∧ ∀ p ∈ ps, below p then some (D.lst (((nodups ps).mergeSort leP).map fun p => D.tup [.int p.1, .int p.2])) else none) = _
  rw [prs_pts, Option.bind_some, if_pos ⟨hl, hb⟩]
theorem lfault_ok (R : OkRows rows h w) (v : List P2) (hl : v.length < 64) (ho : ∀ x ∈ v, opn rows h w x = true) : F__law_fault [rowsD rows, .tup (gs.map pt), .tup (v.map pt)] = ok (fres rows h w gs v) := by
  let mk (s3 s4 s5 s6 s7 : Sl) : Sls := [.fz (rowsD rows), .fz (.tup (gs.map pt)), .fz (.tup (v.map pt)), s3, s4, s5, s6, s7]
  have hb : ∀ p ∈ v, below p := fun p hp => by
    obtain ⟨⟨⟨a, b⟩, c, d⟩, _⟩ := opn_in (ho p hp)
    have := R.h2
    have := R.w2
    exact ⟨⟨a, by omega⟩, c, by omega⟩
  have c0 : (mNot (mT (mBI dIsi [(mVar 2), (mC (.ty "tuple"))]))) (startS 8 [rowsD rows, .tup (gs.map pt), .tup (v.map pt)]) = ok false := (not_ev (a := true) (t_ev (bi_ev (args_ev rfl (args_ev rfl args0)) rfl))).trans rfl
  -- each is an open cell
  obtain ⟨ρ1, e1, s3, s6, r1⟩ := forL_all (R := fun ρ => ∃ s3 s6, ρ = mk s3 .no .no s6 .no) (xs := v.map pt) (ρ := mk .no .no .no .no .no)
    (step := fun x ρ => thenF (tgName 3 x ρ).quiet ρ (sIf (mOr (mNot (mT (mBI dIsi [(mVar 3), (mC (.ty "tuple"))]))) (mOr (mT (mOp2 dNe (mBI dLenX [(mVar 3)]) (mC (.int 2)))) (mOr (mNot (mT (mBI dAll [(mLc (mIt (mVar 3)) [6] (tgName 6) mYes (mAndV (mBI dIsi [(mVar 6), (mC (.ty "int"))]) (mNotV (mBI dIsi [(mVar 6), (mC (.ty "bool"))]))))]))) (mT (mOp2 dNotInX (mVar 3) (mCall F__law_cells [(mVar 0)])))))) (sRet (mC (.str "form"))) sNx)) (fun x hx ρ ⟨s3, s6, e⟩ => by
      subst e
      obtain ⟨p, hp, rfl⟩ := List.mem_map.mp hx
      refine ⟨mk (.fz (pt p)) .no .no s6 .no, .inl ?_, _, _, rfl⟩
      refine (if_nx ?_ : sIf _ _ _ (mk (.fz (pt p)) .no .no s6 .no) = _)
      refine (or_ev (a := false) (not_ev (a := true) (t_ev (bi_ev (args_ev rfl (args_ev rfl args0)) rfl))) fun _ => or_ev (a := false) (t_ev (op2_ev (bi1 rfl rfl) rfl rfl)) fun _ => or_ev (a := false) (not_ev (a := true) (t_ev (bi1 (lc_ev0 (as := [p.1, p.2]) (emb := D.int) (g := fun _ => D.bl true) (it_ev rfl rfl) fun i hi => ⟨_, rfl, (andV_ev (a := true) (b := true) (bi_ev (args_ev rfl (args_ev rfl args0)) rfl) fun _ => notV_ev (a := false) (bi_ev (args_ev rfl (args_ev rfl args0)) rfl)).trans rfl⟩) rfl))) fun _ => t_ev (b := false) (op2_ev rfl (call_ev (args_ev rfl args0) (cells_ok R)) ?_)).trans rfl
      rw [notX_lst (in_pt _ _), decide_eq_true (mem_cells.mpr (ho p hp))]
      rfl) ⟨_, _, rfl⟩
  subst r1
  have c1 : mT (mOp2 dNe (mBI dList [(mVar 2)]) (mBI dSS [(mVar 2)])) (mk s3 .no .no s6 .no) = ok (!areB rows h w v) := by
    refine t_ev (op2_ev (bi1 rfl rfl) (bi1 rfl (dSS_pts hl hb)) ?_)
    unfold dNe
    rw [dEq_lpts, srt_nodups ho]
  unfold fres
  cases q : areB rows h w v with
  | false => exact runF_rt (seq_nx2 (if_nx c0) (seq_nx2 ((for_ev (it_ev rfl rfl)).trans e1) (seq_rt ((if_t (c1.trans (by rw [q]; rfl))).trans (ret_ev rfl)))))
  | true =>
    rw [if_pos rfl]
    have c1' := c1.trans (show ok (!areB rows h w v) = ok false by rw [q]; rfl)
    have l4 : mLc (mIt (mVar 2)) [3] (tgName 3) (mT (mOp2 dInX (mVar 3) (mVar 1))) (mVar 3) (mk s3 .no .no s6 .no) = ok (.lst ((v.filter (badB gs)).map pt)) := lc_ev (as := v) (emb := pt) (p := badB gs) (g := pt) (it_ev rfl rfl) fun c hc => ⟨_, rfl, t_ev (op2_ev rfl rfl (inX_tup (in_pt _ _))), fun _ => rfl⟩
    let L4 : Sl := .fz (.lst ((v.filter (badB gs)).map pt))
    have l5 : mLc (mIt (mVar 2)) [3] (tgName 3) (mNot (mT (mBI dAll [(mLc (mIt (mCall F__law_out [(mVar 0), (mVar 3)])) [7] (tgName 7) mYes (mOp2 dInX (mVar 7) (mVar 2)))]))) (mVar 3) (mk s3 L4 .no s6 .no) = ok (.lst ((v.filter (outB rows h w v)).map pt)) := lc_ev (as := v) (emb := pt) (p := outB rows h w v) (g := pt) (it_ev rfl rfl) fun c hc => ⟨_, rfl, all_outs v c (it_ev (call_ev (args_ev rfl (args_ev rfl args0)) (lout_ok R c)) rfl) (fun _ => rfl) fun _ => rfl, fun _ => rfl⟩
    have some_of : ∀ (p : P2 → Bool) (c : P2), v.find? p = some c → ∃ t, v.filter p = c :: t := fun p c e => by
      have := List.head?_filter (p := p) (l := v)
      rw [e] at this
      cases q : v.filter p with
      | nil => rw [q] at this; cases this
      | cons a t => rw [q] at this; cases this; exact ⟨t, rfl⟩
    have none_of : ∀ (p : P2 → Bool), v.find? p = none → v.filter p = [] := fun p e => by
      have := List.head?_filter (p := p) (l := v)
      rw [e] at this
      cases q : v.filter p with
      | nil => rfl
      | cons a t => rw [q] at this; cases this
    have gt : ∀ {f : Sls → Res D} {ρ : Sls} {l : List P2}, f ρ = ok (.lst (l.map pt)) → mT (mOp2 dGtX (mBI dLenX [f]) (mC (.int 0))) ρ = ok (decide (0 < l.length)) := fun {f ρ l} e => by
      refine (t_gt (i_lenL e) rfl).trans ?_
      rw [List.length_map]
      congr 1
      exact decide_eq_decide.mpr (by omega)
    have pre : ∀ {fl : Fl}, _ → _ := fun {fl} (z : (sSeq (sIf (mT (mOp2 dGtX (mBI dLenX [(mVar 4)]) (mC (.int 0)))) (sRet (mTup [(mC (.str "goal")), (mOp2 dIxX (mVar 4) (mC (.int 0)))])) sNx)
    (sSeq (sSet 5 (mLc (mIt (mVar 2)) [3] (tgName 3) (mNot (mT (mBI dAll [(mLc (mIt (mCall F__law_out [(mVar 0), (mVar 3)])) [7] (tgName 7) mYes (mOp2 dInX (mVar 7) (mVar 2)))]))) (mVar 3)))
    (sRet (mIf (mT (mOp2 dGtX (mBI dLenX [(mVar 5)]) (mC (.int 0)))) (mTup [(mC (.str "out")), (mOp2 dIxX (mVar 5) (mC (.int 0)))]) (mC .non))))) (mk s3 L4 .no s6 .no) = fl) => (seq_nx2 (if_nx c0) (seq_nx2 ((for_ev (it_ev rfl rfl)).trans e1) (seq_nx2 (if_nx c1') (seq_nx2 (set_ev l4) z))) : b__law_fault (startS 8 [rowsD rows, .tup (gs.map pt), .tup (v.map pt)]) = fl)
    cases f1 : v.find? (badB gs) with
    | some c =>
      obtain ⟨t, et⟩ := some_of _ c f1
      refine runF_rt (pre (seq_rt ((if_t ((gt (l := v.filter (badB gs)) rfl).trans (by rw [et]; rfl))).trans (ret_ev (tup_ev (args_ev rfl (args_ev (op2_ev rfl rfl ?_) args0)))))))
      rw [et, dIx_lst (by decide)]
      rfl
    | none =>
      have et := none_of _ f1
      have g4 := (gt (f := mVar 4) (ρ := mk s3 L4 .no s6 .no) (l := v.filter (badB gs)) rfl).trans (show ok (decide (0 < (v.filter (badB gs)).length)) = ok false by rw [et]; rfl)
      simp only []
      cases f2 : v.find? (outB rows h w v) with
      | some c =>
        obtain ⟨t, et2⟩ := some_of _ c f2
        refine runF_rt (pre (seq_nx2 (if_nx g4) (seq_nx2 (set_ev l5) (ret_ev ((if_ev (a := true) (v := .non) ((gt (l := v.filter (outB rows h w v)) rfl).trans (by rw [et2]; rfl)) (fun _ => tup_ev (args_ev rfl (args_ev (op2_ev rfl rfl ?_) args0))) (fun z => nomatch z)).trans (by rw [if_pos rfl]))))))
        rw [et2, dIx_lst (by decide)]
        rfl
      | none =>
        have et2 := none_of _ f2
        exact runF_rt (pre (seq_nx2 (if_nx g4) (seq_nx2 (set_ev l5) (ret_ev ((if_ev (a := false) (u := .non) (v := .non) ((gt (l := v.filter (outB rows h w v)) rfl).trans (by rw [et2]; rfl)) (fun z => nomatch z) (fun _ => rfl)).trans (by rw [if_neg (by decide)]))))))
end
end K96

namespace K96
open PP
abbrev S2 := P2 × List P2
def seatP (rows : List (List Nat)) (h w : Nat) (c : P2) (B : List P2) : P2 := (srt (fnd rows h w c B)).headD c
def nextS (rows : List (List Nat)) (h w : Nat) (s : S2) (x : P2 × Int) : S2 := (seatP rows h w x.1 (mov s.2 x.1 x.2.toNat), mov s.2 x.1 x.2.toNat)
def nexts (rows : List (List Nat)) (h w : Nat) (s : S2) : List S2 := (psh rows h w s.2 (fnd rows h w s.1 s.2)).map (nextS rows h w s)
def addn : List S2 → List S2 × List S2 → List S2 × List S2
  | [], s => s
  | x :: xs, s => if x ∈ s.1 then addn xs s else addn xs (s.1 ++ [x], s.2 ++ [x])
def srch (rows : List (List Nat)) (h w : Nat) : Nat → List S2 × List S2 → Option (List S2)
  | 0, _ => none
  | n + 1, (K, L) => if L = [] then some K else srch rows h w n (addn (L.flatMap (nexts rows h w)) (K, []))
theorem addn_app : ∀ (xs ys : List S2) (s : List S2 × List S2), addn (xs ++ ys) s = addn ys (addn xs s)
  | [], ys, s => rfl
  | x :: xs, ys, s => by
    show (if x ∈ s.1 then addn (xs ++ ys) s else addn (xs ++ ys) (s.1 ++ [x], s.2 ++ [x])) = addn ys (if x ∈ s.1 then addn xs s else addn xs (s.1 ++ [x], s.2 ++ [x]))
    split
    · rw [addn_app]
    · rw [addn_app]
structure Grew (K L K' L' : List S2) (P : S2 → Prop) : Prop where
  nd : K'.Nodup
  all : ∀ s ∈ K', P s
  sub : ∀ s ∈ L', s ∈ K'
  len : K'.length + L.length = K.length + L'.length
  old : ∀ s ∈ K, s ∈ K'
theorem addn_ok {P : S2 → Prop} : ∀ (xs K L : List S2), (∀ x ∈ xs, P x) → K.Nodup → (∀ s ∈ K, P s) → (∀ s ∈ L, s ∈ K) → Grew K L (addn xs (K, L)).1 (addn xs (K, L)).2 P
  | [], K, L, _, nd, all, sub => ⟨nd, all, sub, rfl, fun _ h => h⟩
  | x :: xs, K, L, hx, nd, all, sub => by
    unfold addn
    by_cases q : x ∈ K
    · simp only [if_pos q]
      exact addn_ok xs K L (fun y hy => hx y (by simp [hy])) nd all sub
    · simp only [if_neg q]
      obtain ⟨a, b, c, d, e⟩ := addn_ok (P := P) xs (K ++ [x]) (L ++ [x]) (fun y hy => hx y (by simp [hy])) (List.nodup_append.mpr ⟨nd, by simp, fun a ha b hb e => q (by rw [List.mem_singleton.mp hb] at e; exact e ▸ ha)⟩)
        (fun s hs => (List.mem_append.mp hs).elim (all s) fun z => by rw [List.mem_singleton.mp z]; exact hx x (by simp)) (fun s hs => (List.mem_append.mp hs).elim (fun z => List.mem_append_left _ (sub s z)) fun z => List.mem_append_right _ z)
      refine ⟨a, b, c, ?_, fun s hs => e s (List.mem_append_left _ hs)⟩
      simp only [List.length_append, List.length_singleton] at d
      omega
theorem nodup_lenS : ∀ (f U : List S2), f.Nodup → (∀ x ∈ f, x ∈ U) → f.length ≤ U.length
  | [], _, _, _ => Nat.zero_le _
  | x :: f, U, n, h => by
    have hx := h x (by simp)
    have nd := List.nodup_cons.mp n
    have := nodup_lenS f (U.erase x) nd.2 fun y hy => (List.mem_erase_of_ne (fun e => by rw [e] at hy; exact nd.1 hy)).mpr (h y (by simp [hy]))
    rw [List.length_erase_of_mem hx] at this
    have : 0 < U.length := List.length_pos_of_mem hx
    simp only [List.length_cons]
    omega
/-! ### all states there can be -/
def lists (cs : List P2) : Nat → List (List P2)
  | 0 => [[]]
  | n + 1 => cs.flatMap fun b => (lists cs n).map (b :: ·)
theorem mem_lists {cs : List P2} : ∀ {B : List P2}, (∀ b ∈ B, b ∈ cs) → B ∈ lists cs B.length
  | [], _ => by simp [lists]
  | b :: B, h => List.mem_flatMap.mpr ⟨b, h b (by simp), List.mem_map.mpr ⟨B, mem_lists fun x hx => h x (by simp [hx]), rfl⟩⟩
theorem lists_len {cs : List P2} {m : Nat} (hc : cs.length ≤ m) : ∀ n, (lists cs n).length ≤ m ^ n
  | 0 => by simp [lists]
  | n + 1 => by
    have ih := lists_len hc n
    have := len_flat (fun b => (lists cs n).map (b :: ·)) (m ^ n) cs fun a _ => by rw [List.length_map]; exact ih
    unfold lists
    rw [Nat.pow_succ, Nat.mul_comm]
    exact Nat.le_trans this (Nat.mul_le_mul_right _ hc)
def univ (cs : List P2) (n : Nat) : List S2 := cs.flatMap fun c => (lists cs n).map (c, ·)
theorem univ_len {cs : List P2} {m n : Nat} (hc : cs.length ≤ m) : (univ cs n).length ≤ m * m ^ n := by
  have := len_flat (fun c => (lists cs n).map (c, ·)) (m ^ n) cs fun a _ => by rw [List.length_map]; exact lists_len hc n
  exact Nat.le_trans this (Nat.mul_le_mul_right _ hc)
section
variable {rows : List (List Nat)} {h w n : Nat} {gs : List P2}
/-- a state with a box in a dead cell -/
def Sd (rows : List (List Nat)) (h w n : Nat) (gs : List P2) (s : S2) : Prop := Good rows h w s.1 s.2 n ∧ ∃ x ∈ s.2, x ∈ dead rows h w gs
theorem sd_univ {s : S2} (g : Sd rows h w n gs s) : s ∈ univ (cellsOf rows h w) n := by
  refine List.mem_flatMap.mpr ⟨s.1, mem_cells.mpr g.1.oc, List.mem_map.mpr ⟨s.2, ?_, rfl⟩⟩
  have := mem_lists (cs := cellsOf rows h w) (B := s.2) fun b hb => mem_cells.mpr (g.1.ob b hb)
  rwa [g.1.len] at this
theorem seat_in (h1 : h ≤ 14) (w1 : w ≤ 14) {c : P2} {B : List P2} (g : Good rows h w c B n) : seatP rows h w c B ∈ fnd rows h w c B := by
  have hc := fnd_ne h1 w1 g.oc g.nc
  unfold seatP
  cases e : srt (fnd rows h w c B) with
  | nil => have := srt_mem.mpr hc; rw [e] at this; simp at this
  | cons a t => exact srt_mem.mp (by rw [e]; simp)
theorem sd_next (h1 : h ≤ 14) (w1 : w ≤ 14) {s : S2} (g : Sd rows h w n gs s) {x : P2 × Int} (hx : x ∈ psh rows h w s.2 (fnd rows h w s.1 s.2)) : Sd rows h w n gs (nextS rows h w s x) := by
  obtain ⟨hb, k, hk, e, o⟩ := mem_psh.mp hx
  have e2 : x.2.toNat = k := by rw [e, Int.toNat_natCast]
  have N := g.1.push hb hk o
  unfold nextS
  rw [e2]
  exact ⟨N.seat h1 w1 (seat_in h1 w1 N), push_dead h1 w1 g.1 hb hk o g.2⟩
theorem sd_nexts (h1 : h ≤ 14) (w1 : w ≤ 14) {L : List S2} (g : ∀ s ∈ L, Sd rows h w n gs s) : ∀ x ∈ L.flatMap (nexts rows h w), Sd rows h w n gs x := fun x hx => by
  obtain ⟨s, hs, hx⟩ := List.mem_flatMap.mp hx
  obtain ⟨y, hy, rfl⟩ := List.mem_map.mp hx
  exact sd_next h1 w1 (g s hs) hy
theorem sd_ne (h1 : h ≤ 14) (w1 : w ≤ 14) {s : S2} (g : Sd rows h w n gs s) : s.2 ≠ gs := fun e => by
  obtain ⟨_, x, hx, hd⟩ := g
  exact dead_goal h1 w1 hd (e ▸ hx)
theorem srch_ok (h1 : h ≤ 14) (w1 : w ≤ 14) {M : Nat} (hM : (univ (cellsOf rows h w) n).length ≤ M) : ∀ (m : Nat) (K L : List S2), K.Nodup → (∀ s ∈ K, Sd rows h w n gs s) → (∀ s ∈ L, s ∈ K) → 1 ≤ m → (L ≠ [] → M + 2 ≤ m + K.length) →
    ∃ K', srch rows h w m (K, L) = some K' ∧ K'.Nodup ∧ ∀ s ∈ K', Sd rows h w n gs s
  | 0, _, _, _, _, _, h, _ => absurd h (by omega)
  | m + 1, K, L, nd, all, sub, _, hf => by
    unfold srch
    by_cases e : L = []
    · rw [if_pos e]
      exact ⟨K, rfl, nd, all⟩
    · rw [if_neg e]
      obtain ⟨a, b, c, d, o⟩ := addn_ok (P := Sd rows h w n gs) (L.flatMap (nexts rows h w)) K [] (sd_nexts h1 w1 fun s hs => all s (sub s hs)) nd all (fun _ h => by simp at h)
      have kl := nodup_lenS _ _ a fun s hs => sd_univ (b s hs)
      have f := hf e
      have k0 := nodup_lenS _ _ nd fun s hs => sd_univ (all s hs)
      simp only [List.length_nil] at d
      refine srch_ok h1 w1 hM m _ _ a b c (by omega) fun hne => ?_
      have := List.length_pos_iff.mpr hne
      omega
end
end K96

namespace K96
open PySem L2 PP
open PP.Res (ok exc bad)
section
variable {rows : List (List Nat)} {h w n : Nat} {gs : List P2}
theorem sat_ok (R : OkRows rows h w) {c : P2} {B : List P2} (g : Good rows h w c B n) : F_sat [yd rows h w gs, st c B] = ok (st (seatP rows h w c B) B) := by
  obtain ⟨_, nd, _⟩ := fnd_ok R.h2 R.w2 g.oc g.nc
  have hc := fnd_ne R.h2 R.w2 g.oc g.nc
  obtain ⟨m, e, hm, le⟩ := min_dct (g := fun _ => .bl true) (l := fnd rows h w c B) (List.ne_nil_of_mem hc) leP_tot leP_tr
  obtain ⟨t, et⟩ := srt_head nd hm le
  have es : seatP rows h w c B = m := by unfold seatP; rw [et]; rfl
  rw [es]
  exact runF_rt (ret_ev (tup_ev (args_ev (bi1 (call_ev (args_ev rfl (args_ev rfl args0)) (reach_ok R g.oc g.nc)) e) (args_ev (op2_ev rfl rfl rfl) args0))))
/-! ### the search -/
structure Kn (rows : List (List Nat)) (h w n : Nat) (gs : List P2) (L K W : List S2) : Prop where
  nd : K.Nodup
  all : ∀ s ∈ K, Sd rows h w n gs s
  wl : W.length ≤ K.length
  sub : ∀ s ∈ L, s ∈ K
theorem Kn.small {L K W : List S2} (k : Kn rows h w n gs L K W) {M : Nat} (hM : (univ (cellsOf rows h w) n).length ≤ M) : K.length ≤ M := Nat.le_trans (nodup_lenS _ _ k.nd fun s hs => sd_univ (k.all s hs)) hM
def Ints (lv : List (S2 × D)) : Prop := ∀ p ∈ lv, ∃ i : Int, p.2 = .int i
def Qs (Y s0 f : D) (L K W : List S2) (s8 : Option D) (ρ : Sls) : Prop := ∃ lv cm t8 s9 s10, ρ = [.fz Y, .fz s0, .fz f, .ow (.dct (asD pB lv)), .ow (.dct (asD pB cm)), .fz (.lst (L.map pB)), .fz (.lst []), .ow (.lst (W.map pB)), t8, s9, s10] ∧ lv.map (·.1) = K ∧ cm.map (·.1) = K ∧ Ints lv ∧ ∀ d, s8 = some d → t8 = .fz d
theorem push_step (R : OkRows rows h w) (hl : n ≤ 1000) {M : Nat} (hM : (univ (cellsOf rows h w) n).length ≤ M) (hM2 : M ≤ 400000) {s0 f : D} {L : List S2} {one : S2} (h1 : one ∈ L) (x : P2 × Int) (hx : x ∈ psh rows h w one.2 (fnd rows h w one.1 one.2)) (K W : List S2) (ρ : Sls) (k : Kn rows h w n gs L K W) (q : Qs (yd rows h w gs) s0 f L K W (some (pB one)) ρ) :
    ∃ ρ', (fun x ρ => thenF (tgName 9 x ρ).quiet ρ (sSeq (sSet 10 (mCall F_sat [(mVar 0), (mCall F_moved [(mVar 8), (mVar 9)])]))
    (sIf (mT (mOp2 dNotInX (mVar 10) (mVarB 3))) (sSeq (sPut 3 (mVar 10) (mOp2 dAdd (mOp2 dIxX (mVarB 3) (mVar 8)) (mC (.int 1))))
    (sSeq (sPut 4 (mVar 10) (mTup [(mVar 8), (mVar 9)]))
    (sApp 7 (mVar 10)))) sNx))) (ph x) ρ = .nx ρ' ∧ Qs (yd rows h w gs) s0 f L (addn [nextS rows h w one x] (K, W)).1 (addn [nextS rows h w one x] (K, W)).2 (some (pB one)) ρ' ∧ Kn rows h w n gs L (addn [nextS rows h w one x] (K, W)).1 (addn [nextS rows h w one x] (K, W)).2 := by
  obtain ⟨lv, cm, t8, s9, s10, e, k1, k2, iv, e8⟩ := q
  have e8 := e8 _ rfl
  subst e8
  subst e
  have g := k.all one (k.sub one h1)
  obtain ⟨hb, kk, hk, ek, okk⟩ := mem_psh.mp hx
  have ex : x = (x.1, (kk : Int)) := Prod.ext rfl ek
  have tn : x.2.toNat = kk := by rw [ek, Int.toNat_natCast]
  have N := g.1.push hb hk okk
  let o : S2 := nextS rows h w one x
  have eo : o = (seatP rows h w x.1 (mov one.2 x.1 kk), mov one.2 x.1 kk) := by show nextS rows h w one x = _; unfold nextS; rw [tn]
  have go : Sd rows h w n gs o := sd_next R.h2 R.w2 g hx
  let mk (lv cm : List (S2 × D)) (W : List S2) (s9 s10 : Sl) : Sls := [.fz (yd rows h w gs), .fz s0, .fz f, .ow (.dct (asD pB lv)), .ow (.dct (asD pB cm)), .fz (.lst (L.map pB)), .fz (.lst []), .ow (.lst (W.map pB)), .fz (pB one), s9, s10]
  have lB : one.2.length ≤ 1000 := by rw [g.1.len]; exact hl
  have em : F_moved [pB one, ph x] = ok (st x.1 (mov one.2 x.1 kk)) := by
    rw [ex]
    exact moved_ok (c := one.1) x.1 hk lB
  have a1 : sSet 10 (mCall F_sat [(mVar 0), (mCall F_moved [(mVar 8), (mVar 9)])]) (mk lv cm W (.fz (ph x)) s10) = .nx (mk lv cm W (.fz (ph x)) (.fz (pB o))) := by
    rw [eo]
    exact set_ev (call_ev (args_ev rfl (args_ev (call_ev (args_ev rfl (args_ev rfl args0)) em) args0)) (sat_ok R N))
  have t : mT (mOp2 dNotInX (mVar 10) (mVarB 3)) (mk lv cm W (.fz (ph x)) (.fz (pB o))) = ok (!decide (o ∈ K)) := t_ev (op2_ev rfl (varB_ow rfl) (by rw [not_as embB, k1]; exact congrArg (fun b => some (D.bl (!b))) (decide_eq_decide.mpr Iff.rfl)))
  have unf : addn [o] (K, W) = if o ∈ K then (K, W) else (K ++ [o], W ++ [o]) := rfl
  have kl := k.small hM
  have l1 : lv.length = K.length := by rw [← k1, List.length_map]
  have l2 : cm.length = K.length := by rw [← k2, List.length_map]
  show ∃ ρ', _ ∧ Qs _ _ _ _ (addn [o] (K, W)).1 (addn [o] (K, W)).2 _ ρ' ∧ Kn _ _ _ _ _ _ (addn [o] (K, W)).1 (addn [o] (K, W)).2
  by_cases hin : o ∈ K
  · rw [unf, if_pos hin]
    rw [decide_eq_true hin] at t
    exact ⟨_, seq_nx2 a1 (if_nx t), ⟨lv, cm, _, _, _, rfl, k1, k2, iv, fun d z => by cases z; rfl⟩, k⟩
  · rw [unf, if_neg hin]
    rw [decide_eq_false hin] at t
    obtain ⟨v, ev, i, ei⟩ := ix_as embB (a := one) (ps := lv) (P := fun d => ∃ i : Int, d = .int i) (by rw [k1]; exact k.sub one h1) iv
    subst ei
    have p3 := put_as embB (ρ := mk lv cm W (.fz (ph x)) (.fz (pB o))) (i := 3) (f := mVar 10) (g := mOp2 dAdd (mOp2 dIxX (mVarB 3) (mVar 8)) (mC (.int 1))) (a := o) (v := .int (i + 1)) (ps := lv) rfl rfl (i_add (op2_ev (varB_ow rfl) rfl ev) rfl) (by rw [k1]; exact hin) (by omega)
    have p4 := put_as embB (ρ := mk (lv ++ [(o, .int (i + 1))]) cm W (.fz (ph x)) (.fz (pB o))) (i := 4) (f := mVar 10) (g := mTup [(mVar 8), (mVar 9)]) (a := o) (v := .tup [pB one, ph x]) (ps := cm) rfl rfl (tup_ev (args_ev rfl (args_ev rfl args0))) (by rw [k2]; exact hin) (by omega)
    refine ⟨mk (lv ++ [(o, .int (i + 1))]) (cm ++ [(o, .tup [pB one, ph x])]) (W ++ [o]) (.fz (ph x)) (.fz (pB o)), seq_nx2 a1 ((if_t t).trans (seq_nx2 p3 (seq_nx2 p4 ?_))), ⟨_, _, _, _, _, rfl, by rw [List.map_append, k1]; rfl, by rw [List.map_append, k2]; rfl, fun p hp => ?_, fun d z => by cases z; rfl⟩, ?_⟩
    · have := app_ev (i := 7) (ρ := mk (lv ++ [(o, .int (i + 1))]) (cm ++ [(o, .tup [pB one, ph x])]) W (.fz (ph x)) (.fz (pB o))) (f := mVar 10) (xs := W.map pB) (u := pB o) rfl rfl (by rw [List.length_map]; have := k.wl; omega)
      refine Eq.trans this ?_
      show Fl.nx [.fz (yd rows h w gs), .fz s0, .fz f, .ow (.dct (asD pB (lv ++ [(o, .int (i + 1))]))), .ow (.dct (asD pB (cm ++ [(o, .tup [pB one, ph x])]))), .fz (.lst (L.map pB)), .fz (.lst []), .ow (.lst (W.map pB ++ [pB o])), .fz (pB one), .fz (ph x), .fz (pB o)] = Fl.nx [.fz (yd rows h w gs), .fz s0, .fz f, .ow (.dct (asD pB (lv ++ [(o, .int (i + 1))]))), .ow (.dct (asD pB (cm ++ [(o, .tup [pB one, ph x])]))), .fz (.lst (L.map pB)), .fz (.lst []), .ow (.lst ((W ++ [o]).map pB)), .fz (pB one), .fz (ph x), .fz (pB o)]
      rw [List.map_append (f := pB) (l₁ := W)]
      rfl
    · rcases List.mem_append.mp hp with z | z
      · exact iv p z
      · rw [List.mem_singleton.mp z]; exact ⟨_, rfl⟩
    · refine ⟨List.nodup_append.mpr ⟨k.nd, by simp, fun a ha b hb e => hin (by rw [List.mem_singleton.mp hb] at e; exact e ▸ ha)⟩, fun s hs => (List.mem_append.mp hs).elim (k.all s) fun z => by rw [List.mem_singleton.mp z]; exact go, by rw [List.length_append, List.length_append]; have := k.wl; omega, fun s hs => List.mem_append_left _ (k.sub s hs)⟩
theorem push_loop (R : OkRows rows h w) (hl : n ≤ 1000) {M : Nat} (hM : (univ (cellsOf rows h w) n).length ≤ M) (hM2 : M ≤ 400000) {s0 f : D} {L : List S2} {one : S2} (h1 : one ∈ L) : ∀ (xs : List (P2 × Int)) (K W : List S2) (ρ : Sls), (∀ x ∈ xs, x ∈ psh rows h w one.2 (fnd rows h w one.1 one.2)) → Kn rows h w n gs L K W → Qs (yd rows h w gs) s0 f L K W (some (pB one)) ρ →
    ∃ ρ', forL (fun x ρ => thenF (tgName 9 x ρ).quiet ρ (sSeq (sSet 10 (mCall F_sat [(mVar 0), (mCall F_moved [(mVar 8), (mVar 9)])]))
    (sIf (mT (mOp2 dNotInX (mVar 10) (mVarB 3))) (sSeq (sPut 3 (mVar 10) (mOp2 dAdd (mOp2 dIxX (mVarB 3) (mVar 8)) (mC (.int 1))))
    (sSeq (sPut 4 (mVar 10) (mTup [(mVar 8), (mVar 9)]))
    (sApp 7 (mVar 10)))) sNx))) (xs.map ph) ρ = .nx ρ' ∧ Qs (yd rows h w gs) s0 f L (addn (xs.map (nextS rows h w one)) (K, W)).1 (addn (xs.map (nextS rows h w one)) (K, W)).2 (some (pB one)) ρ' ∧ Kn rows h w n gs L (addn (xs.map (nextS rows h w one)) (K, W)).1 (addn (xs.map (nextS rows h w one)) (K, W)).2
  | [], K, W, ρ, _, k, q => ⟨ρ, rfl, q, k⟩
  | x :: xs, K, W, ρ, hx, k, q => by
    obtain ⟨ρ1, e1, q1, k1⟩ := push_step R hl hM hM2 h1 x (hx x (by simp)) K W ρ k q
    obtain ⟨ρ2, e2, q2, k2⟩ := push_loop R hl hM hM2 h1 xs _ _ ρ1 (fun y hy => hx y (by simp [hy])) k1 q1
    have e : addn ((x :: xs).map (nextS rows h w one)) (K, W) = addn (xs.map (nextS rows h w one)) (addn [nextS rows h w one x] (K, W)) := by
      rw [List.map_cons, show nextS rows h w one x :: xs.map (nextS rows h w one) = [nextS rows h w one x] ++ xs.map (nextS rows h w one) from rfl, addn_app]
    rw [e]
    exact ⟨ρ2, (forL_nx e1).trans e2, q2, k2⟩
theorem layer_loop (R : OkRows rows h w) (hl : n ≤ 1000) {M : Nat} (hM : (univ (cellsOf rows h w) n).length ≤ M) (hM2 : M ≤ 400000) {s0 f : D} {L : List S2} : ∀ (xs : List S2) (K W : List S2) (s8 : Option D) (ρ : Sls), (∀ x ∈ xs, x ∈ L) → Kn rows h w n gs L K W → Qs (yd rows h w gs) s0 f L K W s8 ρ →
    ∃ ρ', forL (fun x ρ => thenF (tgName 8 x ρ).quiet ρ (sFor (mIt (mCall F_all_pushes [(mVar 0), (mVar 8)])) (tgName 9)
    (sSeq (sSet 10 (mCall F_sat [(mVar 0), (mCall F_moved [(mVar 8), (mVar 9)])]))
    (sIf (mT (mOp2 dNotInX (mVar 10) (mVarB 3))) (sSeq (sPut 3 (mVar 10) (mOp2 dAdd (mOp2 dIxX (mVarB 3) (mVar 8)) (mC (.int 1))))
    (sSeq (sPut 4 (mVar 10) (mTup [(mVar 8), (mVar 9)]))
    (sApp 7 (mVar 10)))) sNx)))) (xs.map pB) ρ = .nx ρ' ∧ Qs (yd rows h w gs) s0 f L (addn (xs.flatMap (nexts rows h w)) (K, W)).1 (addn (xs.flatMap (nexts rows h w)) (K, W)).2 none ρ' ∧ Kn rows h w n gs L (addn (xs.flatMap (nexts rows h w)) (K, W)).1 (addn (xs.flatMap (nexts rows h w)) (K, W)).2
  | [], K, W, s8, ρ, _, k, ⟨lv, cm, t8, s9, s10, e, k1, k2, iv, _⟩ => ⟨ρ, rfl, ⟨lv, cm, t8, s9, s10, e, k1, k2, iv, fun d z => (nomatch z)⟩, k⟩
  | one :: xs, K, W, s8, ρ, hx, k, ⟨lv, cm, t8, s9, s10, e, k1, k2, iv, _⟩ => by
    subst e
    have h1 := hx one (by simp)
    have g := k.all one (k.sub one h1)
    let ρ0 : Sls := [.fz (yd rows h w gs), .fz s0, .fz f, .ow (.dct (asD pB lv)), .ow (.dct (asD pB cm)), .fz (.lst (L.map pB)), .fz (.lst []), .ow (.lst (W.map pB)), .fz (pB one), s9, s10]
    obtain ⟨ρ1, e1, q1, kk1⟩ := push_loop R hl hM hM2 h1 (psh rows h w one.2 (fnd rows h w one.1 one.2)) K W ρ0 (fun _ h => h) k ⟨lv, cm, _, s9, s10, rfl, k1, k2, iv, fun d z => by cases z; rfl⟩
    obtain ⟨ρ2, e2, q2, kk2⟩ := layer_loop R hl hM hM2 xs _ _ _ ρ1 (fun y hy => hx y (by simp [hy])) kk1 q1
    have ap : F_all_pushes [yd rows h w gs, pB one] = ok (.lst ((psh rows h w one.2 (fnd rows h w one.1 one.2)).map ph)) := all_pushes_ok R g.1.oc g.1.nc (by rw [g.1.len]; exact hl)
    rw [List.flatMap_cons, addn_app]
    refine ⟨ρ2, (forL_nx ?_).trans e2, q2, kk2⟩
    show sFor _ _ _ ρ0 = _
    exact (for_ev (it_ev (call_ev (args_ev rfl (args_ev rfl args0)) ap) rfl)).trans e1
end
end K96

namespace K96
open PySem L2 PP
open PP.Res (ok exc bad)
section
variable {rows : List (List Nat)} {h w n : Nat} {gs : List P2}
noncomputable abbrev bodyS : Sls → Fl := (sSeq (sSet 6 (mBI dSortedX [(mLc (mIt (mVar 5)) [8] (tgName 8) (mT (mOp2 dEq (mOp2 dIxX (mVar 8) (mC (.int 1))) (mFld ["Yard"] "goals" (mVar 0)))) (mVar 8))]))
    (sSeq (sIf (mT (mOp2 dGtX (mBI dLenX [(mVar 6)]) (mC (.int 0)))) (sFrz 4 (sFrz 3 (sRet (mTup [(mVar 3), (mVar 4), (mOp2 dIxX (mVar 6) (mC (.int 0)))])))) sNx)
    (sSeq (sSetO 7 (mLst []))
    (sSeq (sFor (mIt (mVar 5)) (tgName 8)
    (sFor (mIt (mCall F_all_pushes [(mVar 0), (mVar 8)])) (tgName 9)
    (sSeq (sSet 10 (mCall F_sat [(mVar 0), (mCall F_moved [(mVar 8), (mVar 9)])]))
    (sIf (mT (mOp2 dNotInX (mVar 10) (mVarB 3))) (sSeq (sPut 3 (mVar 10) (mOp2 dAdd (mOp2 dIxX (mVarB 3) (mVar 8)) (mC (.int 1))))
    (sSeq (sPut 4 (mVar 10) (mTup [(mVar 8), (mVar 9)]))
    (sApp 7 (mVar 10)))) sNx))))
    (sFrz 7 (sSet 5 (mVar 7)))))))
abbrev hd (Y s0 f : D) (lv cm : List (S2 × D)) (L : List S2) (s6 s7 s8 s9 s10 : Sl) : Sls := [.fz Y, .fz s0, .fz f, .ow (.dct (asD pB lv)), .ow (.dct (asD pB cm)), .fz (.lst (L.map pB)), s6, s7, s8, s9, s10]
theorem srch_loop (R : OkRows rows h w) (hl : n ≤ 1000) {M : Nat} (hM : (univ (cellsOf rows h w) n).length ≤ M) (hM2 : M ≤ 400000) {s0 f : D} : ∀ (m : Nat) (K L : List S2) (lv cm : List (S2 × D)) (s6 s7 s8 s9 s10 : Sl) (K' : List S2), Kn rows h w n gs L K [] → lv.map (·.1) = K → cm.map (·.1) = K → Ints lv → srch rows h w m (K, L) = some K' →
    ∃ lv' cm' L' t6 t7 t8 t9 t10, whileN (mT (mOp2 dGtX (mBI dLenX [(mVar 5)]) (mC (.int 0)))) bodyS m (hd (yd rows h w gs) s0 f lv cm L s6 s7 s8 s9 s10) = .nx (hd (yd rows h w gs) s0 f lv' cm' L' t6 t7 t8 t9 t10)
  | 0, K, L, lv, cm, s6, s7, s8, s9, s10, K', k, k1, k2, iv, e => by unfold srch at e; cases e
  | m + 1, K, L, lv, cm, s6, s7, s8, s9, s10, K', k, k1, k2, iv, e => by
    have c0 : mT (mOp2 dGtX (mBI dLenX [(mVar 5)]) (mC (.int 0))) (hd (yd rows h w gs) s0 f lv cm L s6 s7 s8 s9 s10) = ok (decide (0 < L.length)) := by
      refine (t_gt (i_lenL rfl) rfl).trans ?_
      rw [List.length_map]
      congr 1
      exact decide_eq_decide.mpr (by omega)
    unfold srch at e
    by_cases q : L = []
    · rw [if_pos q] at e
      cases e
      subst q
      refine ⟨lv, cm, [], s6, s7, s8, s9, s10, ?_⟩
      unfold whileN
      rw [c0, thenF_ok]
      rfl
    · rw [if_neg q] at e
      have hpos := List.length_pos_iff.mpr q
      rw [decide_eq_true hpos] at c0
      have emp : L.filter (fun s => decide (s.2 = gs)) = [] := List.filter_eq_nil_iff.mpr fun s hs => by
        rw [decide_eq_true_eq]
        exact sd_ne R.h2 R.w2 (k.all s (k.sub s hs))
      have lc : mLc (mIt (mVar 5)) [8] (tgName 8) (mT (mOp2 dEq (mOp2 dIxX (mVar 8) (mC (.int 1))) (mFld ["Yard"] "goals" (mVar 0)))) (mVar 8) (hd (yd rows h w gs) s0 f lv cm L s6 s7 s8 s9 s10) = ok (.lst []) := by
        refine (lc_ev (as := L) (emb := pB) (p := fun s => decide (s.2 = gs)) (g := pB) (it_ev rfl rfl) fun s hs => ⟨_, rfl, t_ev (op2_ev (op2_ev rfl rfl rfl) (fld_goals (rows := rows) (h := h) (w := w) (gs := gs) rfl) (dEq_tpts s.2 gs)), fun _ => rfl⟩).trans ?_
        rw [emp]
        rfl
      have b1 : sSet 6 (mBI dSortedX [(mLc (mIt (mVar 5)) [8] (tgName 8) (mT (mOp2 dEq (mOp2 dIxX (mVar 8) (mC (.int 1))) (mFld ["Yard"] "goals" (mVar 0)))) (mVar 8))]) (hd (yd rows h w gs) s0 f lv cm L s6 s7 s8 s9 s10) = .nx (hd (yd rows h w gs) s0 f lv cm L (.fz (.lst [])) s7 s8 s9 s10) := set_ev (bi1 lc (by have := sorted_pt []; simpa using this))
      have b2 : (sIf (mT (mOp2 dGtX (mBI dLenX [(mVar 6)]) (mC (.int 0)))) (sFrz 4 (sFrz 3 (sRet (mTup [(mVar 3), (mVar 4), (mOp2 dIxX (mVar 6) (mC (.int 0)))])))) sNx) (hd (yd rows h w gs) s0 f lv cm L (.fz (.lst [])) s7 s8 s9 s10) = .nx (hd (yd rows h w gs) s0 f lv cm L (.fz (.lst [])) s7 s8 s9 s10) := if_nx ((t_gt (i_lenL rfl) rfl).trans rfl)
      have b3 : sSetO 7 (mLst []) (hd (yd rows h w gs) s0 f lv cm L (.fz (.lst [])) s7 s8 s9 s10) = .nx (hd (yd rows h w gs) s0 f lv cm L (.fz (.lst [])) (.ow (.lst (([] : List S2).map pB))) s8 s9 s10) := rfl
      obtain ⟨ρ4, e4, ⟨lv', cm', t8, t9, t10, r4, j1, j2, jv, _⟩, kn⟩ := layer_loop R hl hM hM2 L K [] none (hd (yd rows h w gs) s0 f lv cm L (.fz (.lst [])) (.ow (.lst (([] : List S2).map pB))) s8 s9 s10) (fun x hx => hx) k ⟨lv, cm, s8, s9, s10, rfl, k1, k2, iv, fun d z => nomatch z⟩
      subst r4
      obtain ⟨_, _, gs', _, _⟩ := addn_ok (P := Sd rows h w n gs) (L.flatMap (nexts rows h w)) K [] (sd_nexts R.h2 R.w2 fun s hs => k.all s (k.sub s hs)) k.nd k.all (fun _ h => by simp at h)
      let K2 := (addn (L.flatMap (nexts rows h w)) (K, [])).1
      let W2 := (addn (L.flatMap (nexts rows h w)) (K, [])).2
      obtain ⟨lv2, cm2, L2', u6, u7, u8, u9, u10, e5⟩ := srch_loop R hl hM hM2 m K2 W2 lv' cm' (.fz (.lst [])) (.fz (.lst (W2.map pB))) t8 t9 t10 K' ⟨kn.nd, kn.all, Nat.zero_le _, gs'⟩ j1 j2 jv e
      refine ⟨lv2, cm2, L2', u6, u7, u8, u9, u10, ?_⟩
      have body : bodyS (hd (yd rows h w gs) s0 f lv cm L s6 s7 s8 s9 s10) = .nx (hd (yd rows h w gs) s0 f lv' cm' W2 (.fz (.lst [])) (.fz (.lst (W2.map pB))) t8 t9 t10) :=
        seq_nx2 b1 (seq_nx2 b2 (seq_nx2 b3 (seq_nx2 ((for_ev (it_ev rfl rfl)).trans e4) rfl)))
      conv => lhs; unfold whileN
      rw [c0, thenF_ok]
      simp only [if_true]
      rw [body]
      exact e5
theorem searched_ok (R : OkRows rows h w) (hl : n ≤ 2) (hc : (cellsOf rows h w).length ≤ 14) {c : P2} {B : List P2} (g : Good rows h w c B n) (hd' : ∃ x ∈ B, x ∈ dead rows h w gs) : ∃ lv cm : List (S2 × D), F__searched [yd rows h w gs, st c B] = ok (.tup [.dct (asD pB lv), .dct (asD pB cm), .non]) := by
  let s1 : S2 := (seatP rows h w c B, B)
  have sd1 : Sd rows h w n gs s1 := ⟨g.seat R.h2 R.w2 (seat_in R.h2 R.w2 g), hd'⟩
  have hM : (univ (cellsOf rows h w) n).length ≤ 2744 := by
    refine Nat.le_trans (univ_len hc) ?_
    have : n = 0 ∨ n = 1 ∨ n = 2 := by omega
    rcases this with rfl | rfl | rfl <;> decide
  have kn : Kn rows h w n gs [s1] [s1] [] := ⟨by simp, fun s hs => by rw [List.mem_singleton.mp hs]; exact sd1, Nat.zero_le _, fun s hs => hs⟩
  obtain ⟨K', e, _⟩ := srch_ok R.h2 R.w2 hM 3000 [s1] [s1] kn.nd kn.all kn.sub (by omega) (fun _ => by simp)
  obtain ⟨lv, cm, L', t6, t7, t8, t9, t10, e2⟩ := srch_loop R (by omega) hM (by omega) (s0 := st c B) (f := pB s1) 3000 [s1] [s1] [(s1, .int 0)] [(s1, .non)] .no .no .no .no .no K' kn rfl rfl (fun p hp => by rw [List.mem_singleton.mp hp]; exact ⟨0, rfl⟩) e
  have i0 : sSet 2 (mCall F_sat [(mVar 0), (mVar 1)]) (startS 11 [yd rows h w gs, st c B]) = .nx [.fz (yd rows h w gs), .fz (st c B), .fz (pB s1), .no, .no, .no, .no, .no, .no, .no, .no] := set_ev (call_ev (args_ev rfl (args_ev rfl args0)) (sat_ok R g))
  have i1 : sSetO 3 (mDisp1 (mVar 2) (mC (.int 0))) [.fz (yd rows h w gs), .fz (st c B), .fz (pB s1), .no, .no, .no, .no, .no, .no, .no, .no] = .nx [.fz (yd rows h w gs), .fz (st c B), .fz (pB s1), .ow (.dct (asD pB [(s1, .int 0)])), .no, .no, .no, .no, .no, .no, .no] := setO_ev (disp1_as embB rfl rfl)
  have i2 : sSetO 4 (mDisp1 (mVar 2) (mC .non)) [.fz (yd rows h w gs), .fz (st c B), .fz (pB s1), .ow (.dct (asD pB [(s1, .int 0)])), .no, .no, .no, .no, .no, .no, .no] = .nx [.fz (yd rows h w gs), .fz (st c B), .fz (pB s1), .ow (.dct (asD pB [(s1, .int 0)])), .ow (.dct (asD pB [(s1, .non)])), .no, .no, .no, .no, .no, .no] := setO_ev (disp1_as embB rfl rfl)
  have i3 : sSet 5 (mLst [(mVar 2)]) [.fz (yd rows h w gs), .fz (st c B), .fz (pB s1), .ow (.dct (asD pB [(s1, .int 0)])), .ow (.dct (asD pB [(s1, .non)])), .no, .no, .no, .no, .no, .no] = .nx (hd (yd rows h w gs) (st c B) (pB s1) [(s1, .int 0)] [(s1, .non)] [s1] .no .no .no .no .no) := rfl
  exact ⟨lv, cm, runF_rt (seq_nx2 i0 (seq_nx2 i1 (seq_nx2 i2 (seq_nx2 i3 (seq_nx2 e2 rfl)))))⟩
theorem solving_ok (R : OkRows rows h w) (hl : n ≤ 2) (hn : gs.length = n) (hc : (cellsOf rows h w).length ≤ 14) {c : P2} {B : List P2} (g : Good rows h w c B n) (hd' : ∃ x ∈ B, x ∈ dead rows h w gs) : ∃ l, F_solving [yd rows h w gs, st c B] = ok (.tup [.str "family", .tup l]) := by
  obtain ⟨lv, cm, e⟩ := searched_ok R hl hc g hd'
  obtain ⟨l, el⟩ := sort_as (e := pB) (q := qB) toPD_pB (ps := lv) (sortOk_qB _)
  refine ⟨l, runF_rt (seq_nx2 (drop_ev (call_ev (args_ev rfl (args_ev rfl args0)) (check_ok (good_state R g hn (by omega))))) (seq_nx2 (if_nx ?_) (seq_nx2 (ρ' := [.fz (yd rows h w gs), .fz (st c B), .fz (.dct (asD pB lv)), .fz (.dct (asD pB cm)), .fz .non, .no, .no, .no]) ?_ (seq_rt ((if_t ((t_ev (op2_ev rfl rfl rfl)).trans rfl)).trans (ret_ev (tup_ev (args_ev rfl (args_ev (bi1 (bi1 rfl el) rfl) args0)))))))))⟩
  · refine (or_ev (a := false) (b := false) ((t_gt (i_lenT (call_ev (args_ev (fld_maze rfl) args0) (pcells_ok R))) rfl).trans ?_) fun _ => (t_gt (i_lenT (fld_goals (rows := rows) (h := h) (w := w) (gs := gs) rfl)) rfl).trans ?_).trans rfl
    · rw [List.length_map, decide_eq_false (by omega)]
    · rw [List.length_map, decide_eq_false (by omega)]
  · unfold sAsg
    have : mCall F__searched [(mVar 0), (mVar 1)] (startS 8 [yd rows h w gs, st c B]) = ok (.tup [.dct (asD pB lv), .dct (asD pB cm), .non]) := call_ev (args_ev rfl (args_ev rfl args0)) e
    rw [this]
    rfl
end
end K96

namespace K96
open PySem L2 PP
open PP.Res (ok exc bad)
theorem ex_seq {s t : Sls → Fl} {ρ ρ1 : Sls} {R : Sls → Prop} (e : s ρ = .nx ρ1) (k : ∃ ρ', t ρ1 = .nx ρ' ∧ R ρ') : ∃ ρ', sSeq s t ρ = .nx ρ' ∧ R ρ' := by
  obtain ⟨ρ', e2, r⟩ := k
  exact ⟨ρ', seq_nx2 e e2, r⟩
theorem ex_rt {s t : Sls → Fl} {ρ : Sls} {R : Sls → Prop} {fl : Fl} (e : ∃ ρ1, s ρ = .nx ρ1 ∧ R ρ1) (k : ∀ ρ1, R ρ1 → t ρ1 = fl) : sSeq s t ρ = fl := by
  obtain ⟨ρ1, e1, r1⟩ := e
  exact seq_nx2 e1 (k ρ1 r1)
theorem for_all {it : Sls → Res (List D)} {i : Nat} {body : Sls → Fl} {ρ : Sls} {xs : List D} {R : Sls → Prop} (e : it ρ = ok xs) (k : ∀ x ∈ xs, ∀ ρ, R ρ → ∃ ρ', body (ρ.set i (.fz x)) = .nx ρ' ∧ R ρ') (h0 : R ρ) : ∃ ρ', sFor it (tgName i) body ρ = .nx ρ' ∧ R ρ' := by
  obtain ⟨ρ', e2, r⟩ := forL_all (step := fun x ρ => thenF (tgName i x ρ).quiet ρ body) (R := R) (xs := xs) (ρ := ρ) (fun x hx ρ hr => by
    obtain ⟨ρ', a, b⟩ := k x hx ρ hr
    exact ⟨ρ', .inl a, b⟩) h0
  exact ⟨ρ', (for_ev e).trans e2, r⟩
theorem ne_str (z : Str) : dNe (.str z) (.str z) = some (.bl false) := by
  show (match (some (D.bl (decide (z = z)))) with | some (.bl k) => some (D.bl (!k)) | _ => none) = _
  rw [decide_eq_true rfl]
  rfl
theorem dat_pts {l : List P2} : Dat 2 (.tup (l.map pt)) := Dat.tup (all_map fun p => Dat.pt p)
section
variable {rows : List (List Nat)} {h w n : Nat} {gs : List P2}
theorem fres_ne (v : List P2) : dNe (fres rows h w gs v) (fres rows h w gs v) = some (.bl false) := by
  unfold fres
  split
  · split
    · exact dNe_selfT (n := 2) (Dat.tup (all_cons (Dat.str _ (by decide +kernel)) (all_cons (Dat.pt _) all_nil)))
    · split
      · exact dNe_selfT (n := 2) (Dat.tup (all_cons (Dat.str _ (by decide +kernel)) (all_cons (Dat.pt _) all_nil)))
      · rfl
  · exact ne_str _
theorem fres_is (v : List P2) : ∃ b, dIsX (fres rows h w gs v) .non = some (.bl b) ∧ (b = true → areB rows h w v = true ∧ (∀ x ∈ v, x ∉ gs) ∧ ∀ x ∈ v, ∀ t ∈ outs rows h w x, t ∈ v) := by
  unfold fres
  split
  · rename_i ha
    split
    · exact ⟨false, rfl, fun z => nomatch z⟩
    · rename_i f1
      split
      · exact ⟨false, rfl, fun z => nomatch z⟩
      · rename_i f2
        refine ⟨true, rfl, fun _ => ⟨ha, fun x hx hg => ?_, fun x hx t ht => ?_⟩⟩
        · have := List.find?_eq_none.mp f1 x hx
          unfold badB at this
          rw [decide_eq_true hg] at this
          exact this rfl
        · have := List.find?_eq_none.mp f2 x hx
          unfold outB at this
          rw [Bool.not_eq_true, Bool.not_eq_false'] at this
          exact of_decide_eq_true (List.all_eq_true.mp this t ht)
  · exact ⟨false, rfl, fun z => nomatch z⟩
theorem fres_dead (R : OkRows rows h w) : fres rows h w gs (dead rows h w gs) = .non := by
  have ha : areB rows h w (dead rows h w gs) = true := areB_good dead_asc fun b hb => ((mem_dead R.h2 R.w2).mp hb).1
  have f1 : (dead rows h w gs).find? (badB gs) = none := List.find?_eq_none.mpr fun x hx => by
    unfold badB
    rw [decide_eq_false (dead_goal R.h2 R.w2 hx)]
    exact Bool.false_ne_true
  have f2 : (dead rows h w gs).find? (outB rows h w (dead rows h w gs)) = none := List.find?_eq_none.mpr fun x hx => by
    unfold outB
    rw [List.all_eq_true.mpr fun t ht => decide_eq_true (dead_out R.h2 R.w2 hx ht)]
    exact Bool.false_ne_true
  unfold fres
  rw [if_pos ha, f1]
  simp only []
  rw [f2]
/-- what one look of the law at a value is -/
def Looked (rows : List (List Nat)) (h w : Nat) (gs : List P2) (x : D) : Prop := ∃ r, F_dead_fault [yd rows h w gs, x] = ok r ∧ F__law_fault [rowsD rows, .tup (gs.map pt), x] = ok r ∧ dNe r r = some (.bl false) ∧
  ((∃ v : List P2, x = .tup (v.map pt) ∧ ∃ b, dIsX r .non = some (.bl b) ∧ (b = true → ∀ y ∈ v, y ∈ dead rows h w gs)) ∨ dIsX r .non = some (.bl false))
theorem looked_pts (R : OkRows rows h w) (v : List P2) (hl : v.length < 64) (ho : ∀ x ∈ v, opn rows h w x = true) : Looked rows h w gs (.tup (v.map pt)) := by
  obtain ⟨b, e, k⟩ := fres_is (rows := rows) (h := h) (w := w) (gs := gs) v
  exact ⟨_, fault_ok R v (by omega), lfault_ok R v hl ho, fres_ne v, .inl ⟨v, rfl, b, e, fun z => let ⟨_, k2, k3⟩ := k z; closed_dead R.h2 R.w2 ho k2 k3⟩⟩
theorem looked_form {x : D} (e1 : F_dead_fault [yd rows h w gs, x] = ok (.str "form")) (e2 : F__law_fault [rowsD rows, .tup (gs.map pt), x] = ok (.str "form")) : Looked rows h w gs x :=
  ⟨_, e1, e2, ne_str _, .inr rfl⟩
theorem not_open_true (R : OkRows rows h w) : F_are_cells [mz rows h w, .tup [.bl true]] = ok (.bl false) :=
  are_no (fun _ => false) (fun d hd => by rw [List.mem_singleton.mp hd]; exact is_open_no (not_cell1 rfl)) ⟨.bl true, by simp, rfl⟩
end
theorem law_true (ns : List Int) (hns : ns.length ≤ 63) : F_law [.kl (ns.map .int)] = ok (.bl true) := by
  obtain ⟨ds, ed, dl, dd⟩ := PP.W.draws_ok ns 110 (by decide)
  have ed' : F__law_draws [.kl (ns.map .int), .int 110] = ok (.lst (ds.map .int)) := ed
  obtain ⟨rows, h, w, gs, c, B, n, ey, R, g, ga, gl, n1, n3, h5, w5⟩ := yard_drawn (by omega) dd
  let sc : D := .kl (ns.map .int)
  let A : D := .lst (ds.map .int)
  let Y : D := yd rows h w gs
  let cs : List P2 := cellsOf rows h w
  let dc : List P2 := dead rows h w gs
  have lcs : cs.length ≤ 25 := Nat.le_trans (cells_len rows h w) (Nat.mul_le_mul h5 w5)
  have ldc : dc.length ≤ 25 := Nat.le_trans (List.length_filter_le _ _) lcs
  have odc : ∀ x ∈ dc, opn rows h w x = true := fun x hx => ((mem_dead R.h2 R.w2).mp hx).1
  refine runF_rt ?_
  unfold b_law
  refine seq_nx2 (set_ev (call_ev (args_ev rfl (args_ev rfl args0)) ed')) ?_
  have a1 : sAsg (tgTup 3 (tgsCons (tgName 2) (tgsCons (tgName 3) (tgsCons (tgName 4) tgsNil)))) (mCall F__law_yard [(mVar 1), (mC (.int 5)), (mC (.int 3))]) [.fz sc, .fz A, .no, .no, .no, .no, .no, .no, .no, .no, .no, .no, .no, .no, .no, .no, .no] = .nx [.fz sc, .fz A, .fz (rowsD rows), .fz (.tup (gs.map pt)), .fz (st c B), .no, .no, .no, .no, .no, .no, .no, .no, .no, .no, .no, .no] := by
    unfold sAsg
    have : mCall F__law_yard [(mVar 1), (mC (.int 5)), (mC (.int 3))] [.fz sc, .fz A, .no, .no, .no, .no, .no, .no, .no, .no, .no, .no, .no, .no, .no, .no, .no] = ok (.tup [rowsD rows, .tup (gs.map pt), st c B]) := call_ev (args_ev rfl (args_ev rfl (args_ev rfl args0))) ey
    rw [this]
    rfl
  refine seq_nx2 a1 ?_
  let mk (s7 s8 s9 s10 s11 s12 : Sl) : Sls := [.fz sc, .fz A, .fz (rowsD rows), .fz (.tup (gs.map pt)), .fz (st c B), .fz Y, .fz (.lst (cs.map pt)), s7, s8, s9, s10, s11, s12, .no, .no, .no, .no]
  refine seq_nx2 (ρ' := mk .no .no .no .no .no .no) (par_ev (makeE_ev (args_ev (makeE_ev (args_ev rfl args0) (maze_ok R)) (args_ev rfl args0)) (yard_ok R ga (by omega) (by omega))) (call_ev (args_ev rfl args0) (cells_ok R))) ?_
  let DD : Sl := .fz (.tup (dc.map pt))
  have e7 : (mBI dTuple [(mLc (mIt (mVar 6)) [13] (tgName 13) (mNot (mT (mCall F__law_is_led [(mVar 2), (mVar 3), (mVar 13)]))) (mVar 13))]) (mk .no .no .no .no .no .no) = ok (.tup (dc.map pt)) :=
    bi1 (lc_ev (as := cs) (emb := pt) (p := fun b => !led rows h w gs b) (g := pt) (it_ev rfl rfl) fun b hb => ⟨_, rfl, not_ev (t_ev (call_ev (args_ev rfl (args_ev rfl (args_ev rfl args0))) (lled_ok R (mem_cells.mp hb)))), fun _ => rfl⟩) rfl
  refine seq_nx2 (ρ' := mk DD .no .no .no .no .no) (set_ev e7) ?_
  refine seq_nx2 (ρ' := mk DD .no .no .no .no .no) (if_nx ((or_ev (a := false) (t_ev (op2_ev (call_ev (args_ev rfl args0) (dead_ok R ga)) rfl (dNe_selfT dat_pts))) fun _ => or_ev (a := false) (t_ev (op2_ev (call_ev (args_ev rfl (args_ev rfl args0)) ((fault_ok R dc (by omega)).trans (by rw [fres_dead R]))) rfl rfl)) fun _ => (t_ev (bi1 (lc_ev0 (as := gs) (emb := pt) (g := fun x => D.bl (decide (x ∈ dc))) (it_ev rfl rfl) fun x hx => ⟨_, rfl, op2_ev rfl rfl (inX_tup (in_pt x dc))⟩) (dAny_map _ _))).trans ?_).trans rfl)) ?_
  · rw [List.any_eq_false.mpr fun x hx => by
      rw [decide_eq_false fun hd => dead_goal R.h2 R.w2 hd hx]
      exact Bool.false_ne_true]
  -- the values
  let InR : Sls → Prop := fun ρ => ∃ s8 s9 s10 s11 s12, ρ = mk DD s8 s9 s10 s11 s12
  refine ex_rt (R := InR) (for_all (R := InR) (xs := (List.range 6).map fun k : Nat => D.int (k : Int)) ((rng_nat (n := 6) rfl (by omega)).trans (by rw [rangeD0])) (fun x hx ρ ⟨s8, s9, s10, s11, s12, eρ⟩ => ?_) ⟨_, _, _, _, _, rfl⟩) fun ρ ⟨s8, s9, s10, s11, s12, eρ⟩ => ?_
  · subst eρ
    obtain ⟨k, hk, rfl⟩ := List.mem_map.mp hx
    have hk := List.mem_range.mp hk
    let d : Int := dr ds (72 + (k : Int)).toNat
    let pj : Nat → Bool := fun j => decide (d / (1 + (j : Int)) % 3 = 0)
    let sm : List P2 := ((List.range cs.length).filter pj).map fun j => cs.getD j (0, 0)
    have lsm : sm.length ≤ 25 := by
      show (((List.range cs.length).filter pj).map _).length ≤ 25
      rw [List.length_map]
      exact Nat.le_trans (List.length_filter_le _ _) (by rw [List.length_range]; exact lcs)
    have osm : ∀ x ∈ sm, opn rows h w x = true := fun x hx => by
      obtain ⟨j, hj, rfl⟩ := List.mem_map.mp hx
      have hj := List.mem_range.mp (List.mem_filter.mp hj).1
      rw [List.getD_eq_getElem?_getD, List.getElem?_eq_getElem hj]
      exact mem_cells.mp (List.getElem_mem hj)
    have num : numD (cs.map pt) = (List.range cs.length).map fun j : Nat => D.tup [.int (j : Int), pt (cs.getD j (0, 0))] := by
      unfold numD
      rw [List.length_map]
      refine List.map_congr_left fun j hj => ?_
      have hj := List.mem_range.mp hj
      rw [List.getD_eq_getElem?_getD, List.getElem?_map, List.getElem?_eq_getElem hj, List.getD_eq_getElem?_getD, List.getElem?_eq_getElem hj]
      rfl
    have e9 : (mBI dTuple [(mLc (mEnum (mVar 6)) [15, 13] (tgTup 2 (tgsCons (tgName 15) (tgsCons (tgName 13) tgsNil))) (mT (mOp2 dEq (mOp2 dMod (mOp2 dDiv (mBI dInt [(mOp2 dIxX (mVar 1) (mOp2 dAdd (mC (.int 72)) (mVar 8)))]) (mOp2 dAdd (mC (.int 1)) (mVar 15))) (mC (.int 3))) (mC (.int 0)))) (mVar 13))]) (mk DD (.fz (.int (k : Int))) s9 s10 s11 s12) = ok (.tup (sm.map pt)) := by
      refine bi1 (lc_ev (as := List.range cs.length) (emb := fun j : Nat => D.tup [.int (j : Int), pt (cs.getD j (0, 0))]) (p := pj) (g := fun j => pt (cs.getD j (0, 0))) ?_ fun j hj => ⟨_, rfl, ?_, fun _ => rfl⟩) ?_
      · show mEnum (mVar 6) _ = _
        unfold mEnum
        show ok (numD (cs.map pt)) = _
        rw [num]
      · have hj := List.mem_range.mp hj
        exact t_ev (op2_ev (i_mod (y := 3) (i_div (ix_dr (ds := ds) (i := 72 + (k : Int)) rfl (i_add rfl rfl) (by omega) (by omega)) (i_add rfl rfl) (by omega) (by omega)) rfl (by decide)) rfl (dEq_i _ _))
      · show some (D.tup _) = some (D.tup (sm.map pt))
        show some (D.tup _) = some (D.tup ((((List.range cs.length).filter pj).map fun j => cs.getD j (0, 0)).map pt))
        rw [List.map_map]
        rfl
    let SM : Sl := .fz (.tup (sm.map pt))
    refine ex_seq (ρ1 := mk DD (.fz (.int (k : Int))) SM s10 s11 s12) (set_ev e9) ?_
    let pa : List P2 := dc.filter fun x => decide (x ∈ sm)
    have e10 : (mBI dTuple [(mLc (mIt (mVar 7)) [13] (tgName 13) (mT (mOp2 dInX (mVar 13) (mVar 9))) (mVar 13))]) (mk DD (.fz (.int (k : Int))) SM s10 s11 s12) = ok (.tup (pa.map pt)) :=
      bi1 (lc_ev (as := dc) (emb := pt) (p := fun x => decide (x ∈ sm)) (g := pt) (it_ev rfl rfl) fun x hx => ⟨_, rfl, t_ev (op2_ev rfl rfl (inX_tup (in_pt x sm))), fun _ => rfl⟩) rfl
    refine ex_seq (ρ1 := mk DD (.fz (.int (k : Int))) SM (.fz (.tup (pa.map pt))) s11 s12) (set_ev e10) ?_
    let vs : List D := [.tup (sm.map pt), .tup (pa.map pt), .tup ((dc ++ sm).map pt), .lst (dc.map pt), .non, .tup [.bl true], .tup (dc.reverse.map pt), .tup (cs.map pt), .tup ((dc.drop 1).map pt)]
    have look : ∀ x ∈ vs, Looked rows h w gs x := fun x hx => by
      simp only [vs, List.mem_cons, List.not_mem_nil, or_false] at hx
      rcases hx with rfl | rfl | rfl | rfl | rfl | rfl | rfl | rfl | rfl
      · exact looked_pts R sm (by omega) osm
      · exact looked_pts R pa (by have := List.length_filter_le (fun x => decide (x ∈ sm)) dc; show (dc.filter fun x => decide (x ∈ sm)).length < 64; omega) fun x hx => odc x (List.mem_filter.mp hx).1
      · exact looked_pts R (dc ++ sm) (by rw [List.length_append]; omega) fun x hx => (List.mem_append.mp hx).elim (odc x) (osm x)
      · exact looked_form (fault_no (are_nt rfl)) (lfault_nt rfl)
      · exact looked_form (fault_no (are_nt rfl)) (lfault_nt rfl)
      · exact looked_form (fault_no (not_open_true R)) lfault_true
      · exact looked_pts R dc.reverse (by rw [List.length_reverse]; omega) fun x hx => odc x (List.mem_reverse.mp hx)
      · exact looked_pts R cs (by omega) fun x hx => mem_cells.mp hx
      · exact looked_pts R (dc.drop 1) (by rw [List.length_drop]; omega) fun x hx => odc x (List.mem_of_mem_drop hx)
    let ρ0 : Sls := mk DD (.fz (.int (k : Int))) SM (.fz (.tup (pa.map pt))) s11 s12
    have v3 : mOp2 dAdd (mVar 7) (mVar 9) ρ0 = ok (.tup ((dc ++ sm).map pt)) := op2_ev rfl rfl (by rw [dAdd_t (by rw [List.length_map, List.length_map]; omega), List.map_append])
    have v4 : mBI dList [mVar 7] ρ0 = ok (.lst (dc.map pt)) := bi1 rfl rfl
    have v7 : mOp1 dRevT (mVar 7) ρ0 = ok (.tup (dc.reverse.map pt)) := op1_ev rfl (by show some (D.tup (dc.map pt).reverse) = _; rw [List.map_reverse])
    have v8 : mBI dTuple [mVar 6] ρ0 = ok (.tup (cs.map pt)) := bi1 rfl rfl
    have v9 : mSl dSl (mVar 7) (mPart (mC (.int 1))) mNoPart ρ0 = ok (.tup ((dc.drop 1).map pt)) := by
      rw [List.map_drop]
      exact sl_tup_from (k := 1) rfl rfl (by decide)
    have eit : (mIt (mTup [(mVar 9), (mVar 10), (mOp2 dAdd (mVar 7) (mVar 9)), (mBI dList [(mVar 7)]), (mC .non), (mTup [(mC (.bl true))]), (mOp1 dRevT (mVar 7)), (mBI dTuple [(mVar 6)]), (mSl dSl (mVar 7) (mPart (mC (.int 1))) mNoPart)])) ρ0 = ok vs := it_ev (tup_ev (args_ev rfl (args_ev rfl (args_ev v3 (args_ev v4 (args_ev rfl (args_ev (tup_ev (args_ev rfl args0)) (args_ev v7 (args_ev v8 (args_ev v9 args0)))))))))) rfl
    obtain ⟨ρ', e', s11', s12', r'⟩ := for_all (R := fun ρ => ∃ s11 s12, ρ = mk DD (.fz (.int (k : Int))) SM (.fz (.tup (pa.map pt))) s11 s12) (i := 11) (xs := vs) (ρ := mk DD (.fz (.int (k : Int))) SM (.fz (.tup (pa.map pt))) s11 s12)
      (it := mIt (mTup [(mVar 9), (mVar 10), (mOp2 dAdd (mVar 7) (mVar 9)), (mBI dList [(mVar 7)]), (mC .non), (mTup [(mC (.bl true))]), (mOp1 dRevT (mVar 7)), (mBI dTuple [(mVar 6)]), (mSl dSl (mVar 7) (mPart (mC (.int 1))) mNoPart)]))
      (body := (sSeq (sSet 12 (mCall F__law_fault [(mVar 2), (mVar 3), (mVar 11)]))
    (sIf (mOr (mT (mOp2 dNe (mCall F_dead_fault [(mVar 5), (mVar 11)]) (mVar 12))) (mAnd (mT (mOp2 dIsX (mVar 12) (mC .non))) (mNot (mT (mBI dAll [(mLc (mIt (mVar 11)) [13] (tgName 13) mYes (mOp2 dInX (mVar 13) (mVar 7)))]))))) (sRet (mC (.bl false))) sNx))) eit (fun x hx ρ ⟨s11, s12, e⟩ => by
        subst e
        obtain ⟨r, r1, r2, r3, r4⟩ := look x hx
        refine ⟨mk DD (.fz (.int (k : Int))) SM (.fz (.tup (pa.map pt))) (.fz x) (.fz r), seq_nx2 (ρ' := mk DD (.fz (.int (k : Int))) SM (.fz (.tup (pa.map pt))) (.fz x) (.fz r)) (set_ev (call_ev (args_ev rfl (args_ev rfl (args_ev rfl args0))) r2)) (if_nx ?_), _, _, rfl⟩
        have first : mT (mOp2 dNe (mCall F_dead_fault [(mVar 5), (mVar 11)]) (mVar 12)) (mk DD (.fz (.int (k : Int))) SM (.fz (.tup (pa.map pt))) (.fz x) (.fz r)) = ok false := t_ev (op2_ev (call_ev (args_ev rfl (args_ev rfl args0)) r1) rfl r3)
        rcases r4 with ⟨v, ex, b, eb, kb⟩ | eb
        · subst ex
          refine (or_ev (a := false) (b := false) first fun _ => (and_ev (a := b) (b := false) (t_ev (op2_ev rfl rfl eb)) fun hb => (not_ev (t_ev (bi1 (lc_ev0 (as := v) (emb := pt) (g := fun y => D.bl (decide (y ∈ dc))) (it_ev rfl rfl) fun y hy => ⟨_, rfl, op2_ev rfl rfl (inX_tup (in_pt y dc))⟩) (dAll_map _ _)))).trans ?_).trans (by rw [Bool.and_false])).trans rfl
          rw [List.all_eq_true.mpr fun y hy => decide_eq_true (kb hb y hy)]
          rfl
        · exact (or_ev (a := false) (b := false) first fun _ => (and_ev (a := false) (b := false) (t_ev (op2_ev rfl rfl eb)) fun z => nomatch z).trans rfl).trans rfl) ⟨_, _, rfl⟩
    subst r'
    exact ⟨_, e', _, _, _, _, _, rfl⟩
  -- the solver
  subst eρ
  have fam : (mAnd (mT (mOp2 dLeX (mBI dLenX [(mVar 6)]) (mC (.int 14)))) (mAnd (mT (mOp2 dLtX (mBI dLenX [(mVar 3)]) (mC (.int 3)))) (mAnd (mT (mBI dAny [(mLc (mIt (mOp2 dIxX (mVar 4) (mC (.int 1)))) [16] (tgName 16) mYes (mOp2 dInX (mVar 16) (mVar 7)))])) (mAnd (mT (mOp2 dNe (mOp2 dIxX (mCall F_solving [(mVar 5), (mVar 4)]) (mC (.int 0))) (mC (.str "family")))) (mT (mOp2 dNe (mOp2 dIxX (mVar 4) (mC (.int 1))) (mVar 3))))))) (mk DD s8 s9 s10 s11 s12) = ok false := by
    refine (and_ev (b := decide (((gs.map pt).length : Int) < 3) && ((B.any fun b => decide (b ∈ dc)) && false)) (t_le (i_lenL rfl) rfl) fun ha => and_ev (t_lt (i_lenT rfl) rfl) fun hb => and_ev (t_ev (bi1 (lc_ev0 (as := B) (emb := pt) (g := fun b => D.bl (decide (b ∈ dc))) (it_ev (op2_ev rfl rfl rfl) rfl) fun b hb => ⟨_, rfl, op2_ev rfl rfl (inX_tup (in_pt b dc))⟩) (dAny_map _ _))) fun hc => ?_).trans (by simp)
    have ha := of_decide_eq_true ha
    have hb := of_decide_eq_true hb
    rw [List.length_map] at ha hb
    obtain ⟨b, hbB, hbd⟩ := List.any_eq_true.mp hc
    obtain ⟨l, el⟩ := solving_ok R (by omega) gl (by show cs.length ≤ 14; omega) g ⟨b, hbB, of_decide_eq_true hbd⟩
    exact (and_ev (a := false) (b := false) (t_ev (op2_ev (op2_ev (call_ev (args_ev rfl (args_ev rfl args0)) el) rfl rfl) rfl (ne_str _))) fun z => nomatch z).trans rfl
  exact seq_nx2 (if_nx fam) (ret_ev rfl)
end K96

namespace K96
open PySem PySem.Spec PyProof.Rows L2 PP
abbrev hk : PySem.W.Hook := He.hookX 5 faL fnL tsL [] exB
end K96
open PySem PySem.W PySem.Calls PyProof.Rows in
theorem PySem.Challenge.cw_mazemore_k96_whole_dead_cells_holds : PySem.Challenge.rw_mazemore_k96_whole_dead_cells.Holds := by
  w_on; o_law
  o_head K96.hk
  case hw => w_witness2
  case hc =>
    refine PP.walk_ofX (l := PySem.Challenge.rw_mazemore_k96_whole_dead_cells) (n := 63) (k := 9) (x := "script") (qual := "law") (st := K96.top 54) (Fl := K96.F_law) rfl (by decide) (by kernel_rfl) ⟨rfl, by decide, by decide⟩ ?F K96.law_true
    intro w mg fa h Y G hmg0
    obtain ⟨K, KX, c⟩ := Y
    have hmg : mg ("law" : PySem.Str) = some (.ref fa) := hmg0
    have T := K96.factsOf KX G c
    have e := hmg.symm.trans T.g_law
    cases e
    exact ⟨K, KX, T.d_law, fun base h1 h2 fd hfd => PP.FnP.at_ (K96.ok_law (P := (PySem.Challenge.rw_mazemore_k96_whole_dead_cells).prog) (base := base) T) hfd⟩

