import PyProof.Rows.All
import HandS.ForMost
import HandS.ForExc
import HandS.Exc
import HandS.ExcOwn
import HandS.ExcIs
import HandS.TryMany
import HandS.IsInst
import HandS.Deep
import HandS.More
import HandS.HeadHook1
import HandS.CallSlots
import KE.KDictKeyed
import HandS.TupAny
import HandS.Style
import KE.KRevSl
import HandS.Head0
import HandS.Head1
import HandS.Head2
import HandS.HeadEnd
import HandS.HeadHook2
import HandS.HeadHook3
import HandS.HeadHook4
import HandS.HeadNt
import HandS.WordsExc
import KE.SortData
import KE.DataCmp
import HandS.TupLe
import PyProof.Rows.SeqRoads
import KE.DataMinMax
import KE.KDictDisplayH
import HandS.Iter
import KE.KDictWalk
import KE.KDictSum
import KE.KDictCopyH
import HandS.ExcValue
import HandS.List
import HandS.DictComp
import HandS.TupSets
import KE.GoesEnum
import HandS.TupMul
import HandS.Codes
import PySem.Challenge.RW_mazemore_k73_alike_pairs
set_option Elab.async false
set_option linter.all false
set_option maxRecDepth 100000
set_option maxHeartbeats 0
namespace PP
open PySem PySem.Spec PyProof.Rows L2

/-- plain data -/
inductive D where
  | non | bl (b : Bool) | int (i : Int) | str (x : Str) | ty (n : String)
  | tup (xs : List D) | lst (xs : List D)
  /-- a list of the written part, or one that is locked: the script -/
  | kl (xs : List D)
  | obj (c : Str) (fs : List (Str × D))
  | dct (kvs : List (D × D))
  deriving Inhabited

inductive Res (α : Type) where
  | ok (a : α) | exc (c : Str) | bad
namespace Res
variable {α β : Type}
def bind : Res α → (α → Res β) → Res β
  | ok a, f => f a
  | exc c, _ => exc c
  | bad, _ => bad
instance : Monad Res where
  pure := ok
  bind := bind
@[simp] theorem pure_eq (a : α) : (pure a : Res α) = ok a := rfl
@[simp] theorem ok_bind (a : α) (f : α → Res β) : (ok a >>= f) = f a := rfl
@[simp] theorem exc_bind (c : Str) (f : α → Res β) : (exc c >>= f) = exc c := rfl
@[simp] theorem bad_bind (f : α → Res β) : ((bad : Res α) >>= f) = bad := rfl
@[simp] theorem ok_bind' (a : α) (f : α → Res β) : bind (ok a) f = f a := rfl
@[simp] theorem exc_bind' (c : Str) (f : α → Res β) : bind (exc c) f = exc c := rfl
@[simp] theorem bad_bind' (f : α → Res β) : bind (bad : Res α) f = bad := rfl
/-- what raises is no value here -/
def quiet : Res α → Res α
  | ok a => ok a
  | _ => bad
@[simp] theorem quiet_ok (a : α) : quiet (ok a) = ok a := rfl
end Res
open Res (ok exc bad)

/-- a slot: empty; a value that is never changed; a value (its own object alone) that may be changed -/
inductive Sl where
  | no | fz (d : D) | ow (d : D) | me (a : Addr) (d : D) | od (d : D)
  deriving Inhabited
abbrev Sls := List Sl

inductive Fl where
  | nx (ρ : Sls) | rt (d : D) | bk (ρ : Sls) | ct (ρ : Sls) | exc (c : Str) (ρ : Sls) | bad

/-! ### dicts whose keys are tuples of numbers and of such -/
def keyD : D → Option NestedKey
  | .int i => some (.num i)
  | .tup xs => (keyDs xs).map .tup
  | _ => none
where keyDs : List D → Option (List NestedKey)
  | [] => some []
  | x :: xs => (keyD x).bind fun k => (keyDs xs).map fun ks => k :: ks
/-- the dict's own object: its entries, whatever the world's hash of texts -/
def DictAt (a : Addr) (o : Obj) (xs : List (NestedKey × Addr × Value)) (h : Heap) : Prop :=
  (a == sysModules) = false ∧ h.get? a = some o ∧ o.ExactDict ∧ ∃ es ep, o.data = .dict es ep ∧ ∀ w : World, es.toList = xs.map fun x => ⟨x.1.hash w, .ref x.2.1, x.2.2⟩
/-- no object of its own that may be changed -/
def Fzy : D → Bool
  | .lst _ => false
  | .dct _ => false
  | .obj _ _ => false
  | _ => true
/-! ### what represents what -/
/-- a list that is read and not owned -/
def SqF (K : PySem.W.Frag) (H : Hp) (O : Addr → Prop) (a : Addr) (vs : List V) : Prop :=
  (Rd H a (.lst vs) ∧ ¬ O a) ∨ ∃ (o : Obj) (its : Array Value) (n : Nat), K.lookup a = some o ∧ o.cls = .type "list" ∧ o.dict = none ∧ o.data = .seq its n ∧ its.size ≤ sizeLine ∧ Vals vs its.toList
theorem SqF.sql {K : PySem.W.Frag} {H : Hp} {O : Addr → Prop} {a : Addr} {vs : List V} (h : SqF K H O a vs) : SqL K H a vs := by
  rcases h with ⟨h, _⟩ | h
  · exact .inl h
  · exact .inr h
section
variable (K : PySem.W.Frag)
mutual
inductive Rep (H : Hp) (O : Addr → Prop) : V → D → Prop
  | non : Rep H O .non .non
  | bl (b : Bool) : Rep H O (.bl b) (.bl b)
  | int (i : Int) : Rep H O (.int i) (.int i)
  | str (x : Str) : Rep H O (.str x) (.str x)
  | ty (n : String) : Rep H O (.ty n) (.ty n)
  | tup {a : Addr} {vs : List V} {ds : List D} : SqT K H a vs → vs.length ≤ sizeLine → Reps H O vs ds → Rep H O (.ref a) (.tup ds)
  | lst {a : Addr} {vs : List V} {ds : List D} : Rd H a (.lst vs) → ¬ O a → vs.length ≤ sizeLine → Reps H O vs ds → Rep H O (.ref a) (.lst ds)
  | kl {a : Addr} {vs : List V} {ds : List D} : SqF K H O a vs → vs.length ≤ sizeLine → Reps H O vs ds → Rep H O (.ref a) (.kl ds)
  | obj {a dx : Addr} {c : Str} {fs : List (Str × V)} {gs : List (Str × D)} : H a = some (.ins (He.ga K c) dx fs) → ¬ O a → RepFs H O fs gs → Rep H O (.ref a) (.obj c gs)
  | dct {a : Addr} {ob : Obj} {xs : List (NestedKey × Addr × Value)} {kvs : List (D × D)} : H a = some (.ext (DictAt a ob xs)) → ¬ O a → xs.length ≤ sizeLine → (xs.map (·.1)).Nodup → RepKs H O xs kvs → Rep H O (.ref a) (.dct kvs)
inductive Reps (H : Hp) (O : Addr → Prop) : List V → List D → Prop
  | nil : Reps H O [] []
  | cons {v : V} {d : D} {vs : List V} {ds : List D} : Rep H O v d → Reps H O vs ds → Reps H O (v :: vs) (d :: ds)
inductive RepFs (H : Hp) (O : Addr → Prop) : List (Str × V) → List (Str × D) → Prop
  | nil : RepFs H O [] []
  | cons {x : Str} {v : V} {d : D} {fs : List (Str × V)} {gs : List (Str × D)} : Rep H O v d → RepFs H O fs gs → RepFs H O ((x, v) :: fs) ((x, d) :: gs)
inductive RepKs (H : Hp) (O : Addr → Prop) : List (NestedKey × Addr × Value) → List (D × D) → Prop
  | nil : RepKs H O [] []
  | cons {k : NestedKey} {b : Addr} {u : Value} {v : V} {dk dv : D} {xs : List (NestedKey × Addr × Value)} {kvs : List (D × D)} : Rep H O (.ref b) dk → keyD dk = some k → RelV v u → Rep H O v dv → RepKs H O xs kvs → RepKs H O ((k, b, u) :: xs) ((dk, dv) :: kvs)
end
/-- the same, its own object owned -/
def RepK (H : Hp) (O : Addr → Prop) (a : Addr) : D → Prop
  | .lst ds => ∃ vs, H a = some (.lst vs) ∧ vs.length ≤ sizeLine ∧ Reps K H O vs ds
  | .obj c gs => ∃ dx fs, H a = some (.ins (He.ga K c) dx fs) ∧ RepFs K H O fs gs
  | .dct kvs => ∃ ob xs, H a = some (.ext (DictAt a ob xs)) ∧ xs.length ≤ sizeLine ∧ (xs.map (·.1)).Nodup ∧ RepKs K H O xs kvs
  | _ => False
def RepN (H : Hp) (O : Addr → Prop) (v : V) (d : D) (a : Addr) : Prop := v = .ref a ∧ O a ∧ RepK K H O a d
mutual
/-- a value whose own objects, at all depths, may be owned: the addresses of those -/
inductive RepD (H : Hp) (O : Addr → Prop) : V → D → List Addr → Prop
  | fz {v : V} {d : D} : Fzy d = true → Rep K H O v d → RepD H O v d []
  | lst {a : Addr} {vs : List V} {ds : List D} {F : List Addr} : H a = some (.lst vs) → O a → vs.length ≤ sizeLine → RepDs H O vs ds F → a ∉ F → RepD H O (.ref a) (.lst ds) (a :: F)
  | dct {a : Addr} {ob : Obj} {xs : List (NestedKey × Addr × Value)} {kvs : List (D × D)} : H a = some (.ext (DictAt a ob xs)) → O a → xs.length ≤ sizeLine → (xs.map (·.1)).Nodup → RepKs K H O xs kvs → RepD H O (.ref a) (.dct kvs) [a]
  | obj {a dx : Addr} {c : Str} {fs : List (Str × V)} {gs : List (Str × D)} {F : List Addr} : H a = some (.ins (He.ga K c) dx fs) → O a → RepDF H O fs gs F → a ∉ F → RepD H O (.ref a) (.obj c gs) (a :: F)
inductive RepDs (H : Hp) (O : Addr → Prop) : List V → List D → List Addr → Prop
  | nil : RepDs H O [] [] []
  | cons {v : V} {d : D} {vs : List V} {ds : List D} {F1 F2 : List Addr} : RepD H O v d F1 → RepDs H O vs ds F2 → (∀ a ∈ F1, a ∉ F2) → RepDs H O (v :: vs) (d :: ds) (F1 ++ F2)
inductive RepDF (H : Hp) (O : Addr → Prop) : List (Str × V) → List (Str × D) → List Addr → Prop
  | nil : RepDF H O [] [] []
  | cons {x : Str} {v : V} {d : D} {fs : List (Str × V)} {gs : List (Str × D)} {F1 F2 : List Addr} : RepD H O v d F1 → RepDF H O fs gs F2 → (∀ a ∈ F1, a ∉ F2) → RepDF H O ((x, v) :: fs) ((x, d) :: gs) (F1 ++ F2)
end
inductive RSt (H : Hp) (O : Addr → Prop) : List (Option V) → Sls → List Addr → Prop
  | nil : RSt H O [] [] []
  | no {x : Option V} {σ : List (Option V)} {ρ : Sls} {F : List Addr} : RSt H O σ ρ F → RSt H O (x :: σ) (.no :: ρ) F
  | fz {v : V} {d : D} {σ : List (Option V)} {ρ : Sls} {F : List Addr} : Rep K H O v d → RSt H O σ ρ F → RSt H O (some v :: σ) (.fz d :: ρ) F
  | ow {v : V} {d : D} {a : Addr} {σ : List (Option V)} {ρ : Sls} {F : List Addr} : RepN K H O v d a → a ∉ F → RSt H O σ ρ F → RSt H O (some v :: σ) (.ow d :: ρ) (a :: F)
  | me {v : V} {d : D} {a : Addr} {σ : List (Option V)} {ρ : Sls} {F : List Addr} : RepN K H O v d a → a ∉ F → RSt H O σ ρ F → RSt H O (some v :: σ) (.me a d :: ρ) (a :: F)
  | od {v : V} {d : D} {F1 : List Addr} {σ : List (Option V)} {ρ : Sls} {F : List Addr} : RepD K H O v d F1 → (∀ a ∈ F1, a ∉ F) → RSt H O σ ρ F → RSt H O (some v :: σ) (.od d :: ρ) (F1 ++ F)
end

section
variable {K : PySem.W.Frag} {H H' : Hp} {O O' : Addr → Prop} {v : V} {d : D} {a : Addr}
theorem rd_same {u : HO} (e : Same H H') (h : Rd H a u) : Rd H' a u := by
  rcases h with h | ⟨o, h⟩
  · exact .inl (e _ _ h)
  · exact .inr ⟨o, e _ _ h⟩
theorem sqt_same {xs : List V} (e : Same H H') (h : SqT K H a xs) : SqT K H' a xs := by
  rcases h with h | h
  · exact .inl (rd_same e h)
  · exact .inr h
theorem sql_same {xs : List V} (e : Same H H') (h : SqL K H a xs) : SqL K H' a xs := by
  rcases h with h | h
  · exact .inl (rd_same e h)
  · exact .inr h
theorem sqf_same {xs : List V} (e : Same H H') (h : SqF K H O a xs) : SqF K H' O a xs := by
  rcases h with ⟨h, n⟩ | h
  · exact .inl ⟨rd_same e h, n⟩
  · exact .inr h
theorem sqf_less {xs : List V} (e : ∀ a, O' a → O a) (h : SqF K H O a xs) : SqF K H O' a xs := by
  rcases h with ⟨h, n⟩ | h
  · exact .inl ⟨h, fun q => n (e _ q)⟩
  · exact .inr h
theorem rd_upd {b : Addr} {o u : HO} (h : Rd H a u) (n : a ≠ b) : Rd (upd H b o) a u := by
  rcases h with h | ⟨o', h⟩
  · exact .inl (by rw [upd_ne n]; exact h)
  · exact .inr ⟨o', by rw [upd_ne n]; exact h⟩
/-- no tuple stands at a -/
def NoTup (H : Hp) (a : Addr) : Prop := ∀ xs, ¬ Rd H a (.tup xs)
theorem noTup_lst {xs : List V} (h : H a = some (.lst xs)) : NoTup H a := fun ys r => by
  rcases r with r | ⟨o, r⟩ <;> (rw [h] at r; cases r)
mutual
theorem Rep.same (e : Same H H') : ∀ {v d}, Rep K H O v d → Rep K H' O v d
  | _, _, .non => .non
  | _, _, .bl b => .bl b
  | _, _, .int i => .int i
  | _, _, .str x => .str x
  | _, _, .ty n => .ty n
  | _, _, .tup h z r => .tup (sqt_same e h) z (Reps.same e r)
  | _, _, .lst h n z r => .lst (rd_same e h) n z (Reps.same e r)
  | _, _, .kl h z r => .kl (sqf_same e h) z (Reps.same e r)
  | _, _, .obj h n r => .obj (e _ _ h) n (RepFs.same e r)
  | _, _, .dct h n z q r => .dct (e _ _ h) n z q (RepKs.same e r)
theorem Reps.same (e : Same H H') : ∀ {vs ds}, Reps K H O vs ds → Reps K H' O vs ds
  | _, _, .nil => .nil
  | _, _, .cons r t => .cons (Rep.same e r) (Reps.same e t)
theorem RepFs.same (e : Same H H') : ∀ {vs ds}, RepFs K H O vs ds → RepFs K H' O vs ds
  | _, _, .nil => .nil
  | _, _, .cons r t => .cons (Rep.same e r) (RepFs.same e t)
theorem RepKs.same (e : Same H H') : ∀ {vs ds}, RepKs K H O vs ds → RepKs K H' O vs ds
  | _, _, .nil => .nil
  | _, _, .cons r k u s t => .cons (Rep.same e r) k u (Rep.same e s) (RepKs.same e t)
end
mutual
/-- fewer owned -/
theorem Rep.less (e : ∀ a, O' a → O a) : ∀ {v d}, Rep K H O v d → Rep K H O' v d
  | _, _, .non => .non
  | _, _, .bl b => .bl b
  | _, _, .int i => .int i
  | _, _, .str x => .str x
  | _, _, .ty n => .ty n
  | _, _, .tup h z r => .tup h z (Reps.less e r)
  | _, _, .lst h n z r => .lst h (fun q => n (e _ q)) z (Reps.less e r)
  | _, _, .kl h z r => .kl (sqf_less e h) z (Reps.less e r)
  | _, _, .obj h n r => .obj h (fun q => n (e _ q)) (RepFs.less e r)
  | _, _, .dct h n z q r => .dct h (fun q => n (e _ q)) z q (RepKs.less e r)
theorem Reps.less (e : ∀ a, O' a → O a) : ∀ {vs ds}, Reps K H O vs ds → Reps K H O' vs ds
  | _, _, .nil => .nil
  | _, _, .cons r t => .cons (Rep.less e r) (Reps.less e t)
theorem RepFs.less (e : ∀ a, O' a → O a) : ∀ {vs ds}, RepFs K H O vs ds → RepFs K H O' vs ds
  | _, _, .nil => .nil
  | _, _, .cons r t => .cons (Rep.less e r) (RepFs.less e t)
theorem RepKs.less (e : ∀ a, O' a → O a) : ∀ {vs ds}, RepKs K H O vs ds → RepKs K H O' vs ds
  | _, _, .nil => .nil
  | _, _, .cons r k u s t => .cons (Rep.less e r) k u (Rep.less e s) (RepKs.less e t)
end
/-- what is owned besides -/
abbrev Ad (O : Addr → Prop) (a : Addr) : Addr → Prop := fun b => O b ∨ b = a
theorem rd_some {u : HO} (h : Rd H a u) : H a ≠ none := by
  rcases h with h | ⟨o, h⟩ <;> (rw [h]; exact fun z => nomatch z)
theorem sqf_more {b : Addr} {xs : List V} (n : H b = none) (h : SqF K H O a xs) : SqF K H (Ad O b) a xs := by
  rcases h with ⟨h, m⟩ | h
  · exact .inl ⟨h, fun q => q.elim m fun z => rd_some h (z ▸ n)⟩
  · exact .inr h
mutual
/-- one more owned, that H does not know -/
theorem Rep.more {b : Addr} (n : H b = none) : ∀ {v d}, Rep K H O v d → Rep K H (Ad O b) v d
  | _, _, .non => .non
  | _, _, .bl b => .bl b
  | _, _, .int i => .int i
  | _, _, .str x => .str x
  | _, _, .ty n => .ty n
  | _, _, .tup h z r => .tup h z (Reps.more n r)
  | _, _, .lst h m z r => .lst h (fun q => q.elim m fun z => rd_some h (z ▸ n)) z (Reps.more n r)
  | _, _, .kl h z r => .kl (sqf_more n h) z (Reps.more n r)
  | _, _, .obj h m r => .obj h (fun q => q.elim m fun z => by subst z; rw [h] at n; cases n) (RepFs.more n r)
  | _, _, .dct h m z q r => .dct h (fun q => q.elim m fun z => by subst z; rw [h] at n; cases n) z q (RepKs.more n r)
theorem Reps.more {b : Addr} (n : H b = none) : ∀ {vs ds}, Reps K H O vs ds → Reps K H (Ad O b) vs ds
  | _, _, .nil => .nil
  | _, _, .cons r t => .cons (Rep.more n r) (Reps.more n t)
theorem RepFs.more {b : Addr} (n : H b = none) : ∀ {vs ds}, RepFs K H O vs ds → RepFs K H (Ad O b) vs ds
  | _, _, .nil => .nil
  | _, _, .cons r t => .cons (Rep.more n r) (RepFs.more n t)
theorem RepKs.more {b : Addr} (n : H b = none) : ∀ {vs ds}, RepKs K H O vs ds → RepKs K H (Ad O b) vs ds
  | _, _, .nil => .nil
  | _, _, .cons r k u s t => .cons (Rep.more n r) k u (Rep.more n s) (RepKs.more n t)
end
theorem sqf_upd {b : Addr} {o : HO} {xs : List V} (hb : O b) (h : SqF K H O a xs) : SqF K (upd H b o) O a xs := by
  rcases h with ⟨h, m⟩ | h
  · exact .inl ⟨rd_upd h fun z => m (z ▸ hb), m⟩
  · exact .inr h
theorem sqt_upd {b : Addr} {o : HO} {xs : List V} (hb : NoTup H b) (h : SqT K H a xs) : SqT K (upd H b o) a xs := by
  rcases h with h | h
  · exact .inl (rd_upd h fun z => hb xs (z ▸ h))
  · exact .inr h
mutual
/-- an owned object is changed -/
theorem Rep.upd {b : Addr} {o : HO} (hb : O b) (ht : NoTup H b) : ∀ {v d}, Rep K H O v d → Rep K (upd H b o) O v d
  | _, _, .non => .non
  | _, _, .bl b => .bl b
  | _, _, .int i => .int i
  | _, _, .str x => .str x
  | _, _, .ty n => .ty n
  | _, _, .tup h z r => .tup (sqt_upd ht h) z (Reps.upd hb ht r)
  | _, _, .lst h m z r => .lst (rd_upd h fun z => m (by rw [z]; exact hb)) m z (Reps.upd hb ht r)
  | _, _, .kl h z r => .kl (sqf_upd hb h) z (Reps.upd hb ht r)
  | _, _, .obj h m r => .obj ((upd_ne (fun z => m (by rw [z]; exact hb))).trans h) m (RepFs.upd hb ht r)
  | _, _, .dct h m z q r => .dct ((upd_ne (fun z => m (by rw [z]; exact hb))).trans h) m z q (RepKs.upd hb ht r)
theorem Reps.upd {b : Addr} {o : HO} (hb : O b) (ht : NoTup H b) : ∀ {vs ds}, Reps K H O vs ds → Reps K (upd H b o) O vs ds
  | _, _, .nil => .nil
  | _, _, .cons r t => .cons (Rep.upd hb ht r) (Reps.upd hb ht t)
theorem RepFs.upd {b : Addr} {o : HO} (hb : O b) (ht : NoTup H b) : ∀ {vs ds}, RepFs K H O vs ds → RepFs K (L2.upd H b o) O vs ds
  | _, _, .nil => .nil
  | _, _, .cons r t => .cons (Rep.upd hb ht r) (RepFs.upd hb ht t)
theorem RepKs.upd {b : Addr} {o : HO} (hb : O b) (ht : NoTup H b) : ∀ {vs ds}, RepKs K H O vs ds → RepKs K (L2.upd H b o) O vs ds
  | _, _, .nil => .nil
  | _, _, .cons r k u s t => .cons (Rep.upd hb ht r) k u (Rep.upd hb ht s) (RepKs.upd hb ht t)
end
theorem same_new {p : Addr} {o : HO} (h : H p = none) : Same H (upd H p o) := fun a u e => by
  rw [upd_ne (ne_of_none e h)]
  exact e
/-! ### lists -/
theorem Reps.length : ∀ {vs ds}, Reps K H O vs ds → vs.length = ds.length
  | _, _, .nil => rfl
  | _, _, .cons _ t => congrArg (· + 1) t.length
theorem Reps.get : ∀ {vs ds} {i : Nat} {d : D}, Reps K H O vs ds → ds[i]? = some d → ∃ v, vs[i]? = some v ∧ Rep K H O v d
  | _, _, _, _, .nil, e => by simp at e
  | _, _, 0, _, .cons r _, e => by
    simp at e
    subst e
    exact ⟨_, rfl, r⟩
  | _, _, i + 1, _, .cons _ t, e => by
    obtain ⟨u, h1, h2⟩ := Reps.get (i := i) t (by simpa using e)
    exact ⟨u, by simpa using h1, h2⟩
theorem Reps.getV : ∀ {vs ds} {i : Nat} {v : V}, Reps K H O vs ds → vs[i]? = some v → ∃ d, ds[i]? = some d ∧ Rep K H O v d
  | _, _, _, _, .nil, e => by simp at e
  | _, _, 0, _, .cons r _, e => by
    simp at e
    subst e
    exact ⟨_, rfl, r⟩
  | _, _, i + 1, _, .cons _ t, e => by
    obtain ⟨u, h1, h2⟩ := Reps.getV (i := i) t (by simpa using e)
    exact ⟨u, by simpa using h1, h2⟩
theorem Reps.append : ∀ {vs ws : List V} {ds es : List D}, Reps K H O vs ds → Reps K H O ws es → Reps K H O (vs ++ ws) (ds ++ es)
  | _, _, _, _, .nil, s => s
  | _, _, _, _, .cons r t, s => .cons r (t.append s)
theorem Reps.take : ∀ {vs : List V} {ds : List D} (n : Nat), Reps K H O vs ds → Reps K H O (vs.take n) (ds.take n)
  | _, _, 0, _ => .nil
  | _, _, _ + 1, .nil => .nil
  | _, _, n + 1, .cons r t => .cons r (t.take n)
theorem Reps.drop : ∀ {vs : List V} {ds : List D} (n : Nat), Reps K H O vs ds → Reps K H O (vs.drop n) (ds.drop n)
  | _, _, 0, r => r
  | _, _, _ + 1, .nil => .nil
  | _, _, n + 1, .cons _ t => t.drop n
theorem Reps.one {v : V} {d : D} (r : Rep K H O v d) : Reps K H O [v] [d] := .cons r .nil
theorem Reps.snoc {vs : List V} {ds : List D} {v : V} {d : D} (h : Reps K H O vs ds) (r : Rep K H O v d) : Reps K H O (vs ++ [v]) (ds ++ [d]) := h.append (.one r)
theorem Reps.set {v : V} {d : D} (r : Rep K H O v d) : ∀ {vs : List V} {ds : List D} (i : Nat), Reps K H O vs ds → Reps K H O (vs.set i v) (ds.set i d)
  | _, _, _, .nil => .nil
  | _, _, 0, .cons _ t => .cons r t
  | _, _, i + 1, .cons q t => .cons q (Reps.set r i t)
/-! ### the owned -/
theorem RepK.freeze (h : RepK K H O a d) (n : ¬ O' a) (l : ∀ b, O' b → O b) : Rep K H O' (.ref a) d := by
  cases d with
  | lst ds =>
    obtain ⟨vs, e, z, r⟩ := h
    exact .lst (.inl e) n z (r.less l)
  | obj c gs => obtain ⟨dx, fs, e, r⟩ := h; exact .obj e n (r.less l)
  | dct kvs => obtain ⟨ob, xs, e, z, q, r⟩ := h; exact .dct e n z q (r.less l)
  | _ => exact False.elim h
theorem RepK.noTup (h : RepK K H O a d) : NoTup H a := by
  cases d with
  | lst ds => obtain ⟨vs, e, _⟩ := h; exact noTup_lst e
  | obj c gs => obtain ⟨dx, fs, e, _⟩ := h; exact fun ys r => by rcases r with r | ⟨o, r⟩ <;> (rw [e] at r; cases r)
  | dct kvs => obtain ⟨ob, xs, e, _⟩ := h; exact fun ys r => by rcases r with r | ⟨o, r⟩ <;> (rw [e] at r; cases r)
  | _ => exact False.elim h
theorem RepK.some (h : RepK K H O a d) : H a ≠ none := by
  cases d with
  | lst ds => obtain ⟨vs, e, _⟩ := h; rw [e]; exact fun z => nomatch z
  | obj c gs => obtain ⟨dx, fs, e, _⟩ := h; rw [e]; exact fun z => nomatch z
  | dct kvs => obtain ⟨ob, xs, e, _⟩ := h; rw [e]; exact fun z => nomatch z
  | _ => exact False.elim h
theorem RepK.same (e : Same H H') (h : RepK K H O a d) : RepK K H' O a d := by
  cases d with
  | lst ds => obtain ⟨vs, q, z, r⟩ := h; exact ⟨vs, e _ _ q, z, r.same e⟩
  | obj c gs => obtain ⟨dx, fs, q, r⟩ := h; exact ⟨dx, fs, e _ _ q, r.same e⟩
  | dct kvs => obtain ⟨ob, xs, q, z, y, r⟩ := h; exact ⟨ob, xs, e _ _ q, z, y, r.same e⟩
  | _ => exact False.elim h
theorem RepK.more {b : Addr} (n : H b = none) (h : RepK K H O a d) : RepK K H (Ad O b) a d := by
  cases d with
  | lst ds => obtain ⟨vs, q, z, r⟩ := h; exact ⟨vs, q, z, r.more n⟩
  | obj c gs => obtain ⟨dx, fs, q, r⟩ := h; exact ⟨dx, fs, q, r.more n⟩
  | dct kvs => obtain ⟨ob, xs, q, z, y, r⟩ := h; exact ⟨ob, xs, q, z, y, r.more n⟩
  | _ => exact False.elim h
theorem RepK.less (e : ∀ a, O' a → O a) (h : RepK K H O a d) : RepK K H O' a d := by
  cases d with
  | lst ds => obtain ⟨vs, q, z, r⟩ := h; exact ⟨vs, q, z, r.less e⟩
  | obj c gs => obtain ⟨dx, fs, q, r⟩ := h; exact ⟨dx, fs, q, r.less e⟩
  | dct kvs => obtain ⟨ob, xs, q, z, y, r⟩ := h; exact ⟨ob, xs, q, z, y, r.less e⟩
  | _ => exact False.elim h
theorem RepK.upd {b : Addr} {o : HO} (hb : O b) (ht : NoTup H b) (n : a ≠ b) (h : RepK K H O a d) : RepK K (upd H b o) O a d := by
  cases d with
  | lst ds => obtain ⟨vs, q, z, r⟩ := h; exact ⟨vs, by rw [upd_ne n]; exact q, z, r.upd hb ht⟩
  | obj c gs => obtain ⟨dx, fs, q, r⟩ := h; exact ⟨dx, fs, by rw [upd_ne n]; exact q, r.upd hb ht⟩
  | dct kvs => obtain ⟨ob, xs, q, z, y, r⟩ := h; exact ⟨ob, xs, by rw [upd_ne n]; exact q, z, y, r.upd hb ht⟩
  | _ => exact False.elim h
/-! ### owned at all depths -/
theorem noTup_hlst {xs : List V} (e : H a = some (.lst xs)) : NoTup H a := fun ys r => by rcases r with r | ⟨o, r⟩ <;> (rw [e] at r; cases r)
mutual
theorem RepD.same (e : Same H H') : ∀ {v d F}, RepD K H O v d F → RepD K H' O v d F
  | _, _, _, .fz q r => .fz q (r.same e)
  | _, _, _, .lst h o z r n => .lst (e _ _ h) o z (RepDs.same e r) n
  | _, _, _, .dct h o z q r => .dct (e _ _ h) o z q (r.same e)
  | _, _, _, .obj h o r n => .obj (e _ _ h) o (RepDF.same e r) n
theorem RepDs.same (e : Same H H') : ∀ {vs ds F}, RepDs K H O vs ds F → RepDs K H' O vs ds F
  | _, _, _, .nil => .nil
  | _, _, _, .cons r t n => .cons (RepD.same e r) (RepDs.same e t) n
theorem RepDF.same (e : Same H H') : ∀ {vs ds F}, RepDF K H O vs ds F → RepDF K H' O vs ds F
  | _, _, _, .nil => .nil
  | _, _, _, .cons r t n => .cons (RepD.same e r) (RepDF.same e t) n
end
mutual
theorem RepD.owned : ∀ {v d F}, RepD K H O v d F → ∀ b ∈ F, O b ∧ H b ≠ none ∧ NoTup H b
  | _, _, _, .fz _ _, _, h => by simp at h
  | _, _, _, .lst h o z r n, b, hb => by
    rcases List.mem_cons.mp hb with e | hb
    · subst e; exact ⟨o, by rw [h]; exact (fun z => nomatch z), noTup_hlst h⟩
    · exact RepDs.owned r b hb
  | _, _, _, .dct h o z q r, b, hb => by
    rw [List.mem_singleton.mp hb]
    exact ⟨o, by rw [h]; exact (fun z => nomatch z), fun ys r => by rcases r with r | ⟨o, r⟩ <;> (rw [h] at r; cases r)⟩
  | _, _, _, .obj h o r n, b, hb => by
    rcases List.mem_cons.mp hb with e | hb
    · subst e; exact ⟨o, by rw [h]; exact (fun z => nomatch z), fun ys r => by rcases r with r | ⟨o, r⟩ <;> (rw [h] at r; cases r)⟩
    · exact RepDF.owned r b hb
theorem RepDs.owned : ∀ {vs ds F}, RepDs K H O vs ds F → ∀ b ∈ F, O b ∧ H b ≠ none ∧ NoTup H b
  | _, _, _, .nil, _, h => by simp at h
  | _, _, _, .cons r t n, b, hb => (List.mem_append.mp hb).elim (RepD.owned r b) (RepDs.owned t b)
theorem RepDF.owned : ∀ {vs ds F}, RepDF K H O vs ds F → ∀ b ∈ F, O b ∧ H b ≠ none ∧ NoTup H b
  | _, _, _, .nil, _, h => by simp at h
  | _, _, _, .cons r t n, b, hb => (List.mem_append.mp hb).elim (RepD.owned r b) (RepDF.owned t b)
end
mutual
theorem RepD.more {b : Addr} (m : H b = none) : ∀ {v d F}, RepD K H O v d F → RepD K H (Ad O b) v d F
  | _, _, _, .fz q r => .fz q (r.more m)
  | _, _, _, .lst h o z r n => .lst h (.inl o) z (RepDs.more m r) n
  | _, _, _, .dct h o z q r => .dct h (.inl o) z q (r.more m)
  | _, _, _, .obj h o r n => .obj h (.inl o) (RepDF.more m r) n
theorem RepDs.more {b : Addr} (m : H b = none) : ∀ {vs ds F}, RepDs K H O vs ds F → RepDs K H (Ad O b) vs ds F
  | _, _, _, .nil => .nil
  | _, _, _, .cons r t n => .cons (RepD.more m r) (RepDs.more m t) n
theorem RepDF.more {b : Addr} (m : H b = none) : ∀ {vs ds F}, RepDF K H O vs ds F → RepDF K H (Ad O b) vs ds F
  | _, _, _, .nil => .nil
  | _, _, _, .cons r t n => .cons (RepD.more m r) (RepDF.more m t) n
end
mutual
/-- an owned object that is not among its own is changed -/
theorem RepD.updOut {b : Addr} {o : HO} (hb : O b) (ht : NoTup H b) : ∀ {v d F}, b ∉ F → RepD K H O v d F → RepD K (upd H b o) O v d F
  | _, _, _, _, .fz q r => .fz q (r.upd hb ht)
  | _, _, _, n, .lst h o z r m => .lst ((upd_ne (fun e => n (by rw [e]; simp))).trans h) o z (RepDs.updOut hb ht (fun h => n (List.mem_cons_of_mem _ h)) r) m
  | _, _, _, n, .dct h o z q r => .dct ((upd_ne (fun e => n (by rw [e]; simp))).trans h) o z q (r.upd hb ht)
  | _, _, _, n, .obj h o r m => .obj ((upd_ne (fun e => n (by rw [e]; simp))).trans h) o (RepDF.updOut hb ht (fun h => n (List.mem_cons_of_mem _ h)) r) m
theorem RepDs.updOut {b : Addr} {o : HO} (hb : O b) (ht : NoTup H b) : ∀ {vs ds F}, b ∉ F → RepDs K H O vs ds F → RepDs K (L2.upd H b o) O vs ds F
  | _, _, _, _, .nil => .nil
  | _, _, _, n, .cons r t m => .cons (RepD.updOut hb ht (fun h => n (List.mem_append_left _ h)) r) (RepDs.updOut hb ht (fun h => n (List.mem_append_right _ h)) t) m
theorem RepDF.updOut {b : Addr} {o : HO} (hb : O b) (ht : NoTup H b) : ∀ {vs ds F}, b ∉ F → RepDF K H O vs ds F → RepDF K (L2.upd H b o) O vs ds F
  | _, _, _, _, .nil => .nil
  | _, _, _, n, .cons r t m => .cons (RepD.updOut hb ht (fun h => n (List.mem_append_left _ h)) r) (RepDF.updOut hb ht (fun h => n (List.mem_append_right _ h)) t) m
end
mutual
theorem RepD.less (e : ∀ b, O' b → O b) : ∀ {v d F}, (∀ b ∈ F, O' b) → RepD K H O v d F → RepD K H O' v d F
  | _, _, _, _, .fz q r => .fz q (r.less e)
  | _, _, _, k, .lst h o z r n => .lst h (k _ (by simp)) z (RepDs.less e (fun b hb => k b (List.mem_cons_of_mem _ hb)) r) n
  | _, _, _, k, .dct h o z q r => .dct h (k _ (by simp)) z q (r.less e)
  | _, _, _, k, .obj h o r n => .obj h (k _ (by simp)) (RepDF.less e (fun b hb => k b (List.mem_cons_of_mem _ hb)) r) n
theorem RepDs.less (e : ∀ b, O' b → O b) : ∀ {vs ds F}, (∀ b ∈ F, O' b) → RepDs K H O vs ds F → RepDs K H O' vs ds F
  | _, _, _, _, .nil => .nil
  | _, _, _, k, .cons r t n => .cons (RepD.less e (fun b hb => k b (List.mem_append_left _ hb)) r) (RepDs.less e (fun b hb => k b (List.mem_append_right _ hb)) t) n
theorem RepDF.less (e : ∀ b, O' b → O b) : ∀ {vs ds F}, (∀ b ∈ F, O' b) → RepDF K H O vs ds F → RepDF K H O' vs ds F
  | _, _, _, _, .nil => .nil
  | _, _, _, k, .cons r t n => .cons (RepD.less e (fun b hb => k b (List.mem_append_left _ hb)) r) (RepDF.less e (fun b hb => k b (List.mem_append_right _ hb)) t) n
end
mutual
theorem RepD.freeze (e : ∀ b, O' b → O b) : ∀ {v d F}, (∀ b ∈ F, ¬ O' b) → RepD K H O v d F → Rep K H O' v d
  | _, _, _, _, .fz _ r => r.less e
  | _, _, _, k, .lst h o z r n => .lst (.inl h) (k _ (by simp)) z (RepDs.freeze e (fun b hb => k b (List.mem_cons_of_mem _ hb)) r)
  | _, _, _, k, .dct h o z q r => .dct h (k _ (by simp)) z q (r.less e)
  | _, _, _, k, .obj h o r n => .obj h (k _ (by simp)) (RepDF.freeze e (fun b hb => k b (List.mem_cons_of_mem _ hb)) r)
theorem RepDs.freeze (e : ∀ b, O' b → O b) : ∀ {vs ds F}, (∀ b ∈ F, ¬ O' b) → RepDs K H O vs ds F → Reps K H O' vs ds
  | _, _, _, _, .nil => .nil
  | _, _, _, k, .cons r t n => .cons (RepD.freeze e (fun b hb => k b (List.mem_append_left _ hb)) r) (RepDs.freeze e (fun b hb => k b (List.mem_append_right _ hb)) t)
theorem RepDF.freeze (e : ∀ b, O' b → O b) : ∀ {vs ds F}, (∀ b ∈ F, ¬ O' b) → RepDF K H O vs ds F → RepFs K H O' vs ds
  | _, _, _, _, .nil => .nil
  | _, _, _, k, .cons r t n => .cons (RepD.freeze e (fun b hb => k b (List.mem_append_left _ hb)) r) (RepDF.freeze e (fun b hb => k b (List.mem_append_right _ hb)) t)
end
/-! ### states -/
variable {σ : List (Option V)} {ρ : Sls} {F : List Addr}
theorem RSt.same (e : Same H H') : ∀ {σ ρ F}, RSt K H O σ ρ F → RSt K H' O σ ρ F
  | _, _, _, .nil => .nil
  | _, _, _, .no t => .no (t.same e)
  | _, _, _, .fz r t => .fz (r.same e) (t.same e)
  | _, _, _, .ow ⟨q, o, r⟩ n t => .ow ⟨q, o, r.same e⟩ n (t.same e)
  | _, _, _, .me ⟨q, o, r⟩ n t => .me ⟨q, o, r.same e⟩ n (t.same e)
  | _, _, _, .od r n t => .od (r.same e) n (t.same e)
theorem RSt.more {b : Addr} (n : H b = none) : ∀ {σ ρ F}, RSt K H O σ ρ F → RSt K H (Ad O b) σ ρ F
  | _, _, _, .nil => .nil
  | _, _, _, .no t => .no (t.more n)
  | _, _, _, .fz r t => .fz (r.more n) (t.more n)
  | _, _, _, .ow ⟨q, o, r⟩ m t => .ow ⟨q, .inl o, r.more n⟩ m (t.more n)
  | _, _, _, .me ⟨q, o, r⟩ m t => .me ⟨q, .inl o, r.more n⟩ m (t.more n)
  | _, _, _, .od r m t => .od (r.more n) m (t.more n)
theorem RSt.owned : ∀ {σ ρ F}, RSt K H O σ ρ F → ∀ a ∈ F, O a ∧ H a ≠ none
  | _, _, _, .nil, _, h => by simp at h
  | _, _, _, .no t, a, h => t.owned a h
  | _, _, _, .fz r t, a, h => t.owned a h
  | _, _, _, .ow ⟨q, o, r⟩ n t, a, h => by
    rcases List.mem_cons.mp h with e | h
    · subst e; exact ⟨o, r.some⟩
    · exact t.owned a h
  | _, _, _, .me ⟨q, o, r⟩ n t, a, h => by
    rcases List.mem_cons.mp h with e | h
    · subst e; exact ⟨o, r.some⟩
    · exact t.owned a h
  | _, _, _, .od r n t, a, h => (List.mem_append.mp h).elim (fun h => let ⟨h1, h2, _⟩ := r.owned a h; ⟨h1, h2⟩) (t.owned a)
theorem RSt.length : ∀ {σ ρ F}, RSt K H O σ ρ F → σ.length = ρ.length
  | _, _, _, .nil => rfl
  | _, _, _, .no t => congrArg (· + 1) t.length
  | _, _, _, .fz _ t => congrArg (· + 1) t.length
  | _, _, _, .ow _ _ t => congrArg (· + 1) t.length
  | _, _, _, .me _ _ t => congrArg (· + 1) t.length
  | _, _, _, .od _ _ t => congrArg (· + 1) t.length
theorem RSt.getF : ∀ {σ ρ F} {i : Nat} {d : D}, RSt K H O σ ρ F → ρ[i]? = some (.fz d) → ∃ v, σ[i]? = some (some v) ∧ Rep K H O v d
  | _, _, _, _, _, .nil, e => by simp at e
  | _, _, _, 0, _, .no t, e => by simp at e
  | _, _, _, 0, _, .fz r t, e => by
    simp at e
    subst e
    exact ⟨_, rfl, r⟩
  | _, _, _, 0, _, .ow _ _ t, e => by simp at e
  | _, _, _, 0, _, .me _ _ t, e => by simp at e
  | _, _, _, 0, _, .od _ _ t, e => by simp at e
  | _, _, _, i + 1, _, .od _ _ t, e => by
    obtain ⟨v, h1, h2⟩ := t.getF (i := i) (by simpa using e)
    exact ⟨v, by simpa using h1, h2⟩
  | _, _, _, i + 1, _, .me _ _ t, e => by
    obtain ⟨v, h1, h2⟩ := t.getF (i := i) (by simpa using e)
    exact ⟨v, by simpa using h1, h2⟩
  | _, _, _, i + 1, _, .no t, e => by
    obtain ⟨v, h1, h2⟩ := t.getF (i := i) (by simpa using e)
    exact ⟨v, by simpa using h1, h2⟩
  | _, _, _, i + 1, _, .fz _ t, e => by
    obtain ⟨v, h1, h2⟩ := t.getF (i := i) (by simpa using e)
    exact ⟨v, by simpa using h1, h2⟩
  | _, _, _, i + 1, _, .ow _ _ t, e => by
    obtain ⟨v, h1, h2⟩ := t.getF (i := i) (by simpa using e)
    exact ⟨v, by simpa using h1, h2⟩
theorem RSt.getO : ∀ {σ ρ F} {i : Nat} {d : D}, RSt K H O σ ρ F → ρ[i]? = some (.ow d) → ∃ a, σ[i]? = some (some (.ref a)) ∧ a ∈ F ∧ O a ∧ RepK K H O a d
  | _, _, _, _, _, .nil, e => by simp at e
  | _, _, _, 0, _, .no t, e => by simp at e
  | _, _, _, 0, _, .ow ⟨q, o, r⟩ n t, e => by
    simp at e
    subst e q
    exact ⟨_, rfl, by simp, o, r⟩
  | _, _, _, 0, _, .fz _ t, e => by simp at e
  | _, _, _, 0, _, .me _ _ t, e => by simp at e
  | _, _, _, 0, _, .od _ _ t, e => by simp at e
  | _, _, _, i + 1, _, .od _ _ t, e => by
    obtain ⟨v, h1, h2, h3⟩ := t.getO (i := i) (by simpa using e)
    exact ⟨v, by simpa using h1, List.mem_append_right _ h2, h3⟩
  | _, _, _, i + 1, _, .me _ _ t, e => by
    obtain ⟨v, h1, h2, h3⟩ := t.getO (i := i) (by simpa using e)
    exact ⟨v, by simpa using h1, List.mem_cons_of_mem _ h2, h3⟩
  | _, _, _, i + 1, _, .no t, e => by
    obtain ⟨v, h1, h2, h3⟩ := t.getO (i := i) (by simpa using e)
    exact ⟨v, by simpa using h1, h2, h3⟩
  | _, _, _, i + 1, _, .fz _ t, e => by
    obtain ⟨v, h1, h2, h3⟩ := t.getO (i := i) (by simpa using e)
    exact ⟨v, by simpa using h1, h2, h3⟩
  | _, _, _, i + 1, _, .ow _ _ t, e => by
    obtain ⟨v, h1, h2, h3⟩ := t.getO (i := i) (by simpa using e)
    exact ⟨v, by simpa using h1, List.mem_cons_of_mem _ h2, h3⟩
theorem RSt.getM : ∀ {σ ρ F} {i : Nat} {d : D} {a : Addr}, RSt K H O σ ρ F → ρ[i]? = some (.me a d) → σ[i]? = some (some (.ref a)) ∧ a ∈ F ∧ O a ∧ RepK K H O a d
  | _, _, _, _, _, _, .nil, e => by simp at e
  | _, _, _, 0, _, _, .no t, e => by simp at e
  | _, _, _, 0, _, _, .me ⟨q, o, r⟩ n t, e => by
    simp at e
    obtain ⟨e1, e2⟩ := e
    subst e1 e2 q
    exact ⟨rfl, by simp, o, r⟩
  | _, _, _, 0, _, _, .fz _ t, e => by simp at e
  | _, _, _, 0, _, _, .ow _ _ t, e => by simp at e
  | _, _, _, 0, _, _, .od _ _ t, e => by simp at e
  | _, _, _, i + 1, _, _, .od _ _ t, e => by
    obtain ⟨h1, h2, h3⟩ := t.getM (i := i) (by simpa using e)
    exact ⟨by simpa using h1, List.mem_append_right _ h2, h3⟩
  | _, _, _, i + 1, _, _, .no t, e => by
    obtain ⟨h1, h2, h3⟩ := t.getM (i := i) (by simpa using e)
    exact ⟨by simpa using h1, h2, h3⟩
  | _, _, _, i + 1, _, _, .fz _ t, e => by
    obtain ⟨h1, h2, h3⟩ := t.getM (i := i) (by simpa using e)
    exact ⟨by simpa using h1, h2, h3⟩
  | _, _, _, i + 1, _, _, .ow _ _ t, e => by
    obtain ⟨h1, h2, h3⟩ := t.getM (i := i) (by simpa using e)
    exact ⟨by simpa using h1, List.mem_cons_of_mem _ h2, h3⟩
  | _, _, _, i + 1, _, _, .me _ _ t, e => by
    obtain ⟨h1, h2, h3⟩ := t.getM (i := i) (by simpa using e)
    exact ⟨by simpa using h1, List.mem_cons_of_mem _ h2, h3⟩
theorem RSt.getD : ∀ {σ ρ F} {i : Nat} {d : D}, RSt K H O σ ρ F → ρ[i]? = some (.od d) → ∃ v F1, σ[i]? = some (some v) ∧ RepD K H O v d F1 ∧ ∀ a ∈ F1, a ∈ F
  | _, _, _, _, _, .nil, e => by simp at e
  | _, _, _, 0, _, .no t, e => by simp at e
  | _, _, _, 0, _, .fz _ t, e => by simp at e
  | _, _, _, 0, _, .ow _ _ t, e => by simp at e
  | _, _, _, 0, _, .me _ _ t, e => by simp at e
  | _, _, _, 0, _, .od r n t, e => by
    simp at e
    subst e
    exact ⟨_, _, rfl, r, fun a h => List.mem_append_left _ h⟩
  | _, _, _, i + 1, _, .no t, e => let ⟨v, F1, h1, h2, h3⟩ := t.getD (i := i) (by simpa using e); ⟨v, F1, by simpa using h1, h2, h3⟩
  | _, _, _, i + 1, _, .fz _ t, e => let ⟨v, F1, h1, h2, h3⟩ := t.getD (i := i) (by simpa using e); ⟨v, F1, by simpa using h1, h2, h3⟩
  | _, _, _, i + 1, _, .ow _ _ t, e => let ⟨v, F1, h1, h2, h3⟩ := t.getD (i := i) (by simpa using e); ⟨v, F1, by simpa using h1, h2, fun a h => List.mem_cons_of_mem _ (h3 a h)⟩
  | _, _, _, i + 1, _, .me _ _ t, e => let ⟨v, F1, h1, h2, h3⟩ := t.getD (i := i) (by simpa using e); ⟨v, F1, by simpa using h1, h2, fun a h => List.mem_cons_of_mem _ (h3 a h)⟩
  | _, _, _, i + 1, _, .od _ _ t, e => let ⟨v, F1, h1, h2, h3⟩ := t.getD (i := i) (by simpa using e); ⟨v, F1, by simpa using h1, h2, fun a h => List.mem_append_right _ (h3 a h)⟩
/-- the owned addresses after: fewer -/
theorem RSt.setN : ∀ {σ ρ F} (i : Nat) (x : Option V), RSt K H O σ ρ F → ∃ F', RSt K H O (σ.set i x) (ρ.set i .no) F' ∧ ∀ a ∈ F', a ∈ F
  | _, _, _, _, _, .nil => ⟨[], .nil, fun _ h => h⟩
  | _, _, _, 0, _, .no t => ⟨_, .no t, fun _ h => h⟩
  | _, _, _, 0, _, .fz _ t => ⟨_, .no t, fun _ h => h⟩
  | _, _, _, 0, _, .ow _ _ t => ⟨_, .no t, fun _ h => List.mem_cons_of_mem _ h⟩
  | _, _, _, 0, _, .od _ _ t => ⟨_, .no t, fun _ h => List.mem_append_right _ h⟩
  | _, _, _, i + 1, x, .od q n t => let ⟨F', h1, h2⟩ := t.setN i x; ⟨_, .od q (fun a h z => n a h (h2 _ z)) h1, fun a h => (List.mem_append.mp h).elim (List.mem_append_left _) fun h => List.mem_append_right _ (h2 a h)⟩
  | _, _, _, 0, _, .me _ _ t => ⟨_, .no t, fun _ h => List.mem_cons_of_mem _ h⟩
  | _, _, _, i + 1, x, .me r n t => let ⟨F', h1, h2⟩ := t.setN i x; ⟨_ :: F', .me r (fun h => n (h2 _ h)) h1, fun a h => (List.mem_cons.mp h).elim (fun e => by subst e; simp) fun h => List.mem_cons_of_mem _ (h2 a h)⟩
  | _, _, _, i + 1, x, .no t => let ⟨F', h1, h2⟩ := t.setN i x; ⟨F', .no h1, h2⟩
  | _, _, _, i + 1, x, .fz r t => let ⟨F', h1, h2⟩ := t.setN i x; ⟨F', .fz r h1, h2⟩
  | _, _, _, i + 1, x, .ow r n t => let ⟨F', h1, h2⟩ := t.setN i x; ⟨_ :: F', .ow r (fun h => n (h2 _ h)) h1, fun a h => (List.mem_cons.mp h).elim (fun e => by subst e; simp) fun h => List.mem_cons_of_mem _ (h2 a h)⟩
theorem RSt.setF {v : V} {d : D} (r : Rep K H O v d) : ∀ {σ ρ F} (i : Nat), RSt K H O σ ρ F → ∃ F', RSt K H O (σ.set i (some v)) (ρ.set i (.fz d)) F' ∧ ∀ a ∈ F', a ∈ F
  | _, _, _, _, .nil => ⟨[], .nil, fun _ h => h⟩
  | _, _, _, 0, .no t => ⟨_, .fz r t, fun _ h => h⟩
  | _, _, _, 0, .fz _ t => ⟨_, .fz r t, fun _ h => h⟩
  | _, _, _, 0, .ow _ _ t => ⟨_, .fz r t, fun _ h => List.mem_cons_of_mem _ h⟩
  | _, _, _, 0, .od _ _ t => ⟨_, .fz r t, fun _ h => List.mem_append_right _ h⟩
  | _, _, _, i + 1, .od q n t => let ⟨F', h1, h2⟩ := RSt.setF r i t; ⟨_, .od q (fun a h z => n a h (h2 _ z)) h1, fun a h => (List.mem_append.mp h).elim (List.mem_append_left _) fun h => List.mem_append_right _ (h2 a h)⟩
  | _, _, _, 0, .me _ _ t => ⟨_, .fz r t, fun _ h => List.mem_cons_of_mem _ h⟩
  | _, _, _, i + 1, .me q n t => let ⟨F', h1, h2⟩ := RSt.setF r i t; ⟨_ :: F', .me q (fun h => n (h2 _ h)) h1, fun a h => (List.mem_cons.mp h).elim (fun e => by subst e; simp) fun h => List.mem_cons_of_mem _ (h2 a h)⟩
  | _, _, _, i + 1, .no t => let ⟨F', h1, h2⟩ := RSt.setF r i t; ⟨F', .no h1, h2⟩
  | _, _, _, i + 1, .fz q t => let ⟨F', h1, h2⟩ := RSt.setF r i t; ⟨F', .fz q h1, h2⟩
  | _, _, _, i + 1, .ow q n t => let ⟨F', h1, h2⟩ := RSt.setF r i t; ⟨_ :: F', .ow q (fun h => n (h2 _ h)) h1, fun a h => (List.mem_cons.mp h).elim (fun e => by subst e; simp) fun h => List.mem_cons_of_mem _ (h2 a h)⟩
theorem RSt.setO {v : V} {d : D} {a : Addr} (r : RepN K H O v d a) : ∀ {σ ρ F} (i : Nat), a ∉ F → RSt K H O σ ρ F → ∃ F', RSt K H O (σ.set i (some v)) (ρ.set i (.ow d)) F' ∧ ∀ b ∈ F', b = a ∨ b ∈ F
  | _, _, _, _, _, .nil => ⟨[], .nil, fun _ h => .inr h⟩
  | _, _, _, 0, n, .no t => ⟨_, .ow r n t, fun _ h => List.mem_cons.mp h⟩
  | _, _, _, 0, n, .fz _ t => ⟨_, .ow r n t, fun _ h => List.mem_cons.mp h⟩
  | _, _, _, 0, n, .ow _ _ t => ⟨_, .ow r (fun h => n (List.mem_cons_of_mem _ h)) t, fun _ h => (List.mem_cons.mp h).imp id (List.mem_cons_of_mem _)⟩
  | _, _, _, 0, n, .od _ _ t => ⟨_, .ow r (fun h => n (List.mem_append_right _ h)) t, fun _ h => (List.mem_cons.mp h).imp id (List.mem_append_right _)⟩
  | _, _, _, i + 1, n, .od q m t => by
    obtain ⟨F', h1, h2⟩ := RSt.setO r i (fun h => n (List.mem_append_right _ h)) t
    refine ⟨_, .od q (fun c hc h => ?_) h1, fun c h => ?_⟩
    · rcases h2 _ h with e | h
      · exact n (by rw [← e]; exact List.mem_append_left _ hc)
      · exact m c hc h
    · rcases List.mem_append.mp h with h | h
      · exact .inr (List.mem_append_left _ h)
      · exact (h2 c h).imp id (List.mem_append_right _)
  | _, _, _, 0, n, .me _ _ t => ⟨_, .ow r (fun h => n (List.mem_cons_of_mem _ h)) t, fun _ h => (List.mem_cons.mp h).imp id (List.mem_cons_of_mem _)⟩
  | _, _, _, i + 1, n, .me q m t => by
    obtain ⟨F', h1, h2⟩ := RSt.setO r i (fun h => n (List.mem_cons_of_mem _ h)) t
    refine ⟨_ :: F', .me q (fun h => ?_) h1, fun c h => ?_⟩
    · rcases h2 _ h with e | h
      · exact n (by rw [e]; simp)
      · exact m h
    · rcases List.mem_cons.mp h with e | h
      · exact .inr (by rw [e]; simp)
      · exact (h2 c h).imp id (List.mem_cons_of_mem _)
  | _, _, _, i + 1, n, .no t => let ⟨F', h1, h2⟩ := RSt.setO r i n t; ⟨F', .no h1, h2⟩
  | _, _, _, i + 1, n, .fz q t => let ⟨F', h1, h2⟩ := RSt.setO r i n t; ⟨F', .fz q h1, h2⟩
  | _, _, _, i + 1, n, .ow q m t => by
    obtain ⟨F', h1, h2⟩ := RSt.setO r i (fun h => n (List.mem_cons_of_mem _ h)) t
    refine ⟨_ :: F', .ow q (fun h => ?_) h1, fun c h => ?_⟩
    · rcases h2 _ h with e | h
      · exact n (by rw [e]; simp)
      · exact m h
    · rcases List.mem_cons.mp h with e | h
      · exact .inr (by rw [e]; simp)
      · exact (h2 c h).imp id (List.mem_cons_of_mem _)
/-- an owned value, at all depths, is put into a slot -/
theorem RSt.setD {v : V} {d : D} {F1 : List Addr} (r : RepD K H O v d F1) : ∀ {σ ρ F} (i : Nat), (∀ a ∈ F1, a ∉ F) → RSt K H O σ ρ F → ∃ F', RSt K H O (σ.set i (some v)) (ρ.set i (.od d)) F' ∧ ∀ b ∈ F', b ∈ F1 ∨ b ∈ F
  | _, _, _, _, _, .nil => ⟨[], .nil, fun _ h => .inr h⟩
  | _, _, _, 0, n, .no t => ⟨_, .od r n t, fun _ h => List.mem_append.mp h⟩
  | _, _, _, 0, n, .fz _ t => ⟨_, .od r n t, fun _ h => List.mem_append.mp h⟩
  | _, _, _, 0, n, .ow _ _ t => ⟨_, .od r (fun a h z => n a h (List.mem_cons_of_mem _ z)) t, fun _ h => (List.mem_append.mp h).imp id (List.mem_cons_of_mem _)⟩
  | _, _, _, 0, n, .me _ _ t => ⟨_, .od r (fun a h z => n a h (List.mem_cons_of_mem _ z)) t, fun _ h => (List.mem_append.mp h).imp id (List.mem_cons_of_mem _)⟩
  | _, _, _, 0, n, .od _ _ t => ⟨_, .od r (fun a h z => n a h (List.mem_append_right _ z)) t, fun _ h => (List.mem_append.mp h).imp id (List.mem_append_right _)⟩
  | _, _, _, i + 1, n, .no t => let ⟨F', h1, h2⟩ := RSt.setD r i n t; ⟨F', .no h1, h2⟩
  | _, _, _, i + 1, n, .fz q t => let ⟨F', h1, h2⟩ := RSt.setD r i n t; ⟨F', .fz q h1, h2⟩
  | _, _, _, i + 1, n, .ow q m t => by
    obtain ⟨F', h1, h2⟩ := RSt.setD r i (fun a h z => n a h (List.mem_cons_of_mem _ z)) t
    exact ⟨_, .ow q (fun h => (h2 _ h).elim (fun z => n _ z (by simp)) m) h1, fun c h => (List.mem_cons.mp h).elim (fun e => .inr (by rw [e]; simp)) fun h => (h2 c h).imp id (List.mem_cons_of_mem _)⟩
  | _, _, _, i + 1, n, .me q m t => by
    obtain ⟨F', h1, h2⟩ := RSt.setD r i (fun a h z => n a h (List.mem_cons_of_mem _ z)) t
    exact ⟨_, .me q (fun h => (h2 _ h).elim (fun z => n _ z (by simp)) m) h1, fun c h => (List.mem_cons.mp h).elim (fun e => .inr (by rw [e]; simp)) fun h => (h2 c h).imp id (List.mem_cons_of_mem _)⟩
  | _, _, _, i + 1, n, .od q m t => by
    obtain ⟨F', h1, h2⟩ := RSt.setD r i (fun a h z => n a h (List.mem_append_right _ z)) t
    exact ⟨_, .od q (fun c hc h => (h2 _ h).elim (fun z => n c z (List.mem_append_left _ hc)) (m c hc)) h1, fun c h => (List.mem_append.mp h).elim (fun h => .inr (List.mem_append_left _ h)) fun h => (h2 c h).imp id (List.mem_append_right _)⟩
/-- all that is not a stands -/
theorem RSt.updOut {b : Addr} {o : HO} (hb : O b) (ht : NoTup H b) : ∀ {σ ρ F}, b ∉ F → RSt K H O σ ρ F → RSt K (upd H b o) O σ ρ F
  | _, _, _, _, .nil => .nil
  | _, _, _, n, .no t => .no (RSt.updOut hb ht n t)
  | _, _, _, n, .fz r t => .fz (r.upd hb ht) (RSt.updOut hb ht n t)
  | _, _, _, n, .ow ⟨q, o, r⟩ m t => .ow ⟨q, o, r.upd hb ht fun z => n (by rw [z]; simp)⟩ m (RSt.updOut hb ht (fun h => n (List.mem_cons_of_mem _ h)) t)
  | _, _, _, n, .me ⟨q, o, r⟩ m t => .me ⟨q, o, r.upd hb ht fun z => n (by rw [z]; simp)⟩ m (RSt.updOut hb ht (fun h => n (List.mem_cons_of_mem _ h)) t)
  | _, _, _, n, .od r m t => .od (r.updOut hb ht fun h => n (List.mem_append_left _ h)) m (RSt.updOut hb ht (fun h => n (List.mem_append_right _ h)) t)
/-- the i-th slot's own object, at b, which the slot tells, is changed -/
theorem RSt.updMe {b : Addr} {o : HO} {d' : D} (hb : O b) (ht : NoTup H b) (hk : RepK K (upd H b o) O b d') : ∀ {σ ρ F} {i : Nat} {d : D}, ρ[i]? = some (.me b d) → RSt K H O σ ρ F → RSt K (upd H b o) O σ (ρ.set i (.me b d')) F
  | _, _, _, _, _, e, .nil => by simp at e
  | _, _, _, 0, _, e, .no t => by simp at e
  | _, _, _, 0, _, e, .fz _ t => by simp at e
  | _, _, _, 0, _, e, .ow _ _ t => by simp at e
  | _, _, _, 0, _, e, .od _ _ t => by simp at e
  | _, _, _, i + 1, _, e, .od r m t => by
    have e' := e
    rw [List.getElem?_cons_succ] at e'
    obtain ⟨h1, h2, _⟩ := t.getM e'
    exact .od (r.updOut hb ht fun z => m _ z h2) m (RSt.updMe hb ht hk e' t)
  | _, _, _, 0, _, e, .me ⟨q, o, r⟩ m t => by
    simp at e
    obtain ⟨e1, e2⟩ := e
    subst e1 e2 q
    exact .me ⟨rfl, hb, hk⟩ m (RSt.updOut hb ht m t)
  | _, _, _, i + 1, _, e, .no t => .no (RSt.updMe hb ht hk (by simpa using e) t)
  | _, _, _, i + 1, _, e, .fz r t => .fz (r.upd hb ht) (RSt.updMe hb ht hk (by simpa using e) t)
  | _, _, _, i + 1, _, e, .ow ⟨q, o, r⟩ m t => by
    have e' := e
    rw [List.getElem?_cons_succ] at e'
    obtain ⟨h1, h2, _⟩ := t.getM e'
    exact .ow ⟨q, o, r.upd hb ht fun z => m (by rw [z]; exact h2)⟩ m (RSt.updMe hb ht hk e' t)
  | _, _, _, i + 1, _, e, .me ⟨q, o, r⟩ m t => by
    have e' := e
    rw [List.getElem?_cons_succ] at e'
    obtain ⟨h1, h2, _⟩ := t.getM e'
    exact .me ⟨q, o, r.upd hb ht fun z => m (by rw [z]; exact h2)⟩ m (RSt.updMe hb ht hk e' t)
/-- the i-th slot's own object, at b, is changed -/
theorem RSt.updAt {b : Addr} {o : HO} {d' : D} (hb : O b) (ht : NoTup H b) (hk : RepK K (upd H b o) O b d') : ∀ {σ ρ F} {i : Nat} {d : D}, ρ[i]? = some (.ow d) → σ[i]? = some (some (.ref b)) → RSt K H O σ ρ F → RSt K (upd H b o) O σ (ρ.set i (.ow d')) F
  | _, _, _, _, _, e, _, .nil => by simp at e
  | _, _, _, 0, _, e, _, .no t => by simp at e
  | _, _, _, 0, _, e, _, .fz _ t => by simp at e
  | _, _, _, 0, _, e, _, .me _ _ t => by simp at e
  | _, _, _, 0, _, e, _, .od _ _ t => by simp at e
  | _, _, _, i + 1, _, e, e2, .od r m t => by
    have e' := e
    have e2' := e2
    rw [List.getElem?_cons_succ] at e' e2'
    obtain ⟨c, h1, h2, _⟩ := t.getO e'
    rw [e2'] at h1
    have e3 : b = c := by injection h1 with h1; injection h1 with h1; injection h1
    subst e3
    exact .od (r.updOut hb ht fun z => m _ z h2) m (RSt.updAt hb ht hk e' e2' t)
  | _, _, _, i + 1, _, e, e2, .me ⟨q, o, r⟩ m t => by
    have e' := e
    have e2' := e2
    rw [List.getElem?_cons_succ] at e' e2'
    obtain ⟨c, h1, h2, _⟩ := t.getO e'
    rw [e2'] at h1
    have e3 : b = c := by injection h1 with h1; injection h1 with h1; injection h1
    subst e3
    exact .me ⟨q, o, r.upd hb ht fun z => m (by rw [z]; exact h2)⟩ m (RSt.updAt hb ht hk e' e2' t)
  | _, _, _, 0, _, e, e2, .ow ⟨q, o, r⟩ m t => by
    subst q
    simp at e2
    subst e2
    exact .ow ⟨rfl, hb, hk⟩ m (RSt.updOut hb ht m t)
  | _, _, _, i + 1, _, e, e2, .no t => .no (RSt.updAt hb ht hk (by simpa using e) (by simpa using e2) t)
  | _, _, _, i + 1, _, e, e2, .fz r t => .fz (r.upd hb ht) (RSt.updAt hb ht hk (by simpa using e) (by simpa using e2) t)
  | _, _, _, i + 1, _, e, e2, .ow ⟨q, o, r⟩ m t => by
    have e' := e
    have e2' := e2
    rw [List.getElem?_cons_succ] at e' e2'
    obtain ⟨c, h1, h2, _⟩ := t.getO e'
    rw [e2'] at h1
    have e3 : b = c := by injection h1 with h1; injection h1 with h1; injection h1
    subst e3
    exact .ow ⟨q, o, r.upd hb ht fun z => m (by rw [z]; exact h2)⟩ m (RSt.updAt hb ht hk e' e2' t)
/-- the i-th slot's value is given away: it is never changed again -/
theorem RSt.freeze' : ∀ {σ ρ F} {i : Nat} {d : D}, RSt K H O σ ρ F → ρ[i]? = some (.ow d) → ∃ O' F', (∀ b, O' b → O b) ∧ RSt K H O' σ (ρ.set i (.fz d)) F' ∧ (∀ b ∈ F', b ∈ F) ∧ (∀ b, O b → O' b ∨ b ∈ F) := by
  intro σ ρ F i d t e
  obtain ⟨a, e1, hF, hO, hk⟩ := t.getO e
  -- O' is O without a
  refine ⟨fun b => O b ∧ b ≠ a, ?_⟩
  have key : ∀ {σ ρ F} {i : Nat}, ρ[i]? = some (.ow d) → σ[i]? = some (some (.ref a)) → RSt K H O σ ρ F → ∃ F', RSt K H (fun b => O b ∧ b ≠ a) σ (ρ.set i (.fz d)) F' ∧ (∀ b ∈ F', b ∈ F) := by
    have less : ∀ b, (O b ∧ b ≠ a) → O b := fun b h => h.1
    have away : ∀ {σ ρ F}, a ∉ F → RSt K H O σ ρ F → RSt K H (fun b => O b ∧ b ≠ a) σ ρ F := by
      intro σ ρ F n t
      induction t with
      | nil => exact .nil
      | no _ ih => exact .no (ih n)
      | fz r _ ih => exact .fz (r.less less) (ih n)
      | ow r m _ ih =>
        obtain ⟨q, o, r⟩ := r
        exact .ow ⟨q, ⟨o, fun z => n (by rw [z]; simp)⟩, r.less less⟩ m (ih fun h => n (List.mem_cons_of_mem _ h))
      | me r m _ ih =>
        obtain ⟨q, o, r⟩ := r
        exact .me ⟨q, ⟨o, fun z => n (by rw [z]; simp)⟩, r.less less⟩ m (ih fun h => n (List.mem_cons_of_mem _ h))
      | od r m _ ih => exact .od (r.less less fun b hb => ⟨(r.owned b hb).1, fun z => n (by rw [← z]; exact List.mem_append_left _ hb)⟩) m (ih fun h => n (List.mem_append_right _ h))
    intro σ ρ F i e e2 t
    induction t generalizing i with
    | nil => simp at e
    | no t ih =>
      cases i with
      | zero => simp at e
      | succ i =>
        obtain ⟨F', h1, h2⟩ := ih (i := i) (by simpa using e) (by simpa using e2)
        exact ⟨F', .no h1, h2⟩
    | fz r t ih =>
      cases i with
      | zero => simp at e
      | succ i =>
        obtain ⟨F', h1, h2⟩ := ih (i := i) (by simpa using e) (by simpa using e2)
        exact ⟨F', .fz (r.less less) h1, h2⟩
    | @ow v0 d0 a0 σ0 ρ0 F0 r m t ih =>
      obtain ⟨q, o, r⟩ := r
      cases i with
      | zero =>
        simp at e e2
        subst e q
        have e3 : a0 = a := by injection e2
        subst e3
        exact ⟨F0, .fz (r.freeze (fun z => z.2 rfl) less) (away m t), fun b h => List.mem_cons_of_mem _ h⟩
      | succ i =>
        have e2' : σ0[i]? = some (some (.ref a)) := by simpa using e2
        have e' : ρ0[i]? = some (.ow d) := by simpa using e
        obtain ⟨F', h1, h2⟩ := ih (i := i) e' e2'
        obtain ⟨c, g1, g2, _⟩ := t.getO e'
        rw [e2'] at g1
        have e3 : a = c := by injection g1 with g1; injection g1 with g1; injection g1
        subst e3
        exact ⟨a0 :: F', .ow ⟨q, ⟨o, fun z => m (by rw [z]; exact g2)⟩, r.less less⟩ (fun h => m (h2 _ h)) h1, fun b h => (List.mem_cons.mp h).elim (fun z => by rw [z]; simp) fun h => List.mem_cons_of_mem _ (h2 b h)⟩
    | @me v0 d0 a0 σ0 ρ0 F0 r m t ih =>
      obtain ⟨q, o, r⟩ := r
      cases i with
      | zero => simp at e
      | succ i =>
        have e2' : σ0[i]? = some (some (.ref a)) := by simpa using e2
        have e' : ρ0[i]? = some (.ow d) := by simpa using e
        obtain ⟨F', h1, h2⟩ := ih (i := i) e' e2'
        obtain ⟨c, g1, g2, _⟩ := t.getO e'
        rw [e2'] at g1
        have e3 : a = c := by injection g1 with g1; injection g1 with g1; injection g1
        subst e3
        exact ⟨a0 :: F', .me ⟨q, ⟨o, fun z => m (by rw [z]; exact g2)⟩, r.less less⟩ (fun h => m (h2 _ h)) h1, fun b h => (List.mem_cons.mp h).elim (fun z => by rw [z]; simp) fun h => List.mem_cons_of_mem _ (h2 b h)⟩
    | @od v0 d0 F1 σ0 ρ0 F0 r m t ih =>
      cases i with
      | zero => simp at e
      | succ i =>
        have e2' : σ0[i]? = some (some (.ref a)) := by simpa using e2
        have e' : ρ0[i]? = some (.ow d) := by simpa using e
        obtain ⟨F', h1, h2⟩ := ih (i := i) e' e2'
        obtain ⟨c, g1, g2, _⟩ := t.getO e'
        rw [e2'] at g1
        have e3 : a = c := by injection g1 with g1; injection g1 with g1; injection g1
        subst e3
        exact ⟨F1 ++ F', .od (r.less less fun b hb => ⟨(r.owned b hb).1, fun z => m b hb (by rw [z]; exact g2)⟩) (fun b hb h => m b hb (h2 _ h)) h1, fun b h => (List.mem_append.mp h).elim (List.mem_append_left _) fun h => List.mem_append_right _ (h2 b h)⟩
  obtain ⟨F', h1, h2⟩ := key e e1 t
  refine ⟨F', fun b h => h.1, h1, h2, fun b h => ?_⟩
  by_cases z : b = a
  · exact .inr (by rw [z]; exact hF)
  · exact .inl ⟨h, z⟩
end
end PP

namespace PP
open PySem PySem.Spec PyProof.Rows L2
open Res (ok exc bad)

/-! ### states -/
/-- what is owned stands, and is no tuple -/
def Dom (H : Hp) (O : Addr → Prop) : Prop := ∀ a, O a → H a ≠ none ∧ NoTup H a
structure Sta (K : PySem.W.Frag) (H : Hp) (O : Addr → Prop) (σ : L2.St) (ρ : Sls) (F : List Addr) : Prop where
  st : RSt K H O σ ρ F
  dom : Dom H O
structure Tr (H : Hp) (O : Addr → Prop) (F : List Addr) (H' : Hp) (O' : Addr → Prop) (F' : List Addr) : Prop where
  keep : ∀ a o, H a = some o → a ∉ F → H' a = some o
  new : ∀ a ∈ F', a ∈ F ∨ H a = none
  own : ∀ a, O a → O' a ∨ a ∈ F
  back : ∀ a, O' a → O a ∨ H a = none
section
variable {K : PySem.W.Frag} {H H' H1 H2 : Hp} {O O' O1 O2 : Addr → Prop} {σ σ' : L2.St} {ρ ρ' : Sls} {F F' F1 F2 : List Addr}
theorem dom_same {H H' : Hp} (e : Same H H') {a : Addr} (h : H a ≠ none) : H' a ≠ none := by
  cases q : H a with
  | none => exact absurd q h
  | some o => rw [e a o q]; exact fun z => nomatch z
theorem Dom.same (e : Same H H') (d : Dom H O) : Dom H' O := fun a h => by
  obtain ⟨h1, h2⟩ := d a h
  refine ⟨dom_same e h1, fun xs r => ?_⟩
  cases q : H a with
  | none => exact h1 q
  | some o =>
    have q' := e a o q
    rcases r with r | ⟨o', r⟩
    · rw [q'] at r; exact h2 xs (.inl (q.trans r))
    · rw [q'] at r; exact h2 xs (.inr ⟨o', q.trans r⟩)
theorem Sta.same (e : Same H H') (s : Sta K H O σ ρ F) : Sta K H' O σ ρ F := ⟨s.st.same e, s.dom.same e⟩
theorem Tr.same (e : Same H H') : Tr H O F H' O F := ⟨fun a o h _ => e a o h, fun _ h => .inl h, fun _ h => .inl h, fun _ h => .inl h⟩
theorem Tr.refl : Tr H O F H O F := .same (Same.refl H)
theorem Tr.trans (s : Sta K H O σ ρ F) (a : Tr H O F H1 O1 F1) (b : Tr H1 O1 F1 H2 O2 F2) : Tr H O F H2 O2 F2 where
  keep := fun x o h n => by
    refine b.keep x o (a.keep x o h n) fun h1 => ?_
    rcases a.new x h1 with q | q
    · exact n q
    · rw [h] at q; cases q
  new := fun x h => by
    rcases b.new x h with h1 | h1
    · exact a.new x h1
    · cases q : H x with
      | none => exact .inr rfl
      | some o =>
        by_cases n : x ∈ F
        · exact .inl n
        · rw [a.keep x o q n] at h1; cases h1
  own := fun x h => by
    rcases a.own x h with h1 | h1
    · rcases b.own x h1 with h2 | h2
      · exact .inl h2
      · rcases a.new x h2 with q | q
        · exact .inr q
        · exact absurd q (s.dom x h).1
    · exact .inr h1
  back := fun x h => by
    rcases b.back x h with h1 | h1
    · exact a.back x h1
    · cases q : H x with
      | none => exact .inr rfl
      | some o =>
        by_cases n : x ∈ F
        · exact .inl (s.st.owned x n).1
        · rw [a.keep x o q n] at h1; cases h1
end

/-! ### what is read where a container stands -/
def RepB (K : PySem.W.Frag) (H : Hp) (O : Addr → Prop) (v : V) (d : D) : Prop := Rep K H O v d ∨ ∃ a, v = .ref a ∧ RepK K H O a d
section
variable {K : PySem.W.Frag} {H H' : Hp} {O O' : Addr → Prop} {v : V} {d : D} {a : Addr}
theorem RepB.same (e : Same H H') (h : RepB K H O v d) : RepB K H' O v d := by
  rcases h with h | ⟨a, e1, h⟩
  · exact .inl (h.same e)
  · exact .inr ⟨a, e1, h.same e⟩
theorem RepB.lstR {ds : List D} (h : RepB K H O v (.lst ds)) : ∃ a vs, v = .ref a ∧ Rd H a (.lst vs) ∧ vs.length ≤ sizeLine ∧ Reps K H O vs ds := by
  rcases h with h | ⟨a, e1, vs, e2, z, r⟩
  · cases h with
    | lst h n z r => exact ⟨_, _, rfl, h, z, r⟩
  · exact ⟨a, vs, e1, .inl e2, z, r⟩
theorem RepB.lst {ds : List D} (h : RepB K H O v (.lst ds)) : ∃ a vs, v = .ref a ∧ SqL K H a vs ∧ vs.length ≤ sizeLine ∧ Reps K H O vs ds := by
  obtain ⟨a, vs, e, h, r⟩ := h.lstR
  exact ⟨a, vs, e, .inl h, r⟩
theorem RepB.kl {ds : List D} (h : RepB K H O v (.kl ds)) : ∃ a vs, v = .ref a ∧ SqL K H a vs ∧ vs.length ≤ sizeLine ∧ Reps K H O vs ds := by
  rcases h with h | ⟨a, e1, h⟩
  · cases h with
    | kl h z r => exact ⟨_, _, rfl, h.sql, z, r⟩
  · exact h.elim
theorem RepB.tup {ds : List D} (h : RepB K H O v (.tup ds)) : ∃ a vs, v = .ref a ∧ SqT K H a vs ∧ vs.length ≤ sizeLine ∧ Reps K H O vs ds := by
  rcases h with h | ⟨a, e1, h⟩
  · cases h with
    | tup h z r => exact ⟨_, _, rfl, h, z, r⟩
  · exact h.elim
theorem RepB.int {i : Int} (h : RepB K H O v (.int i)) : v = .int i := by
  rcases h with h | ⟨a, e1, h⟩
  · cases h; rfl
  · exact h.elim
theorem RepB.bl {i : Bool} (h : RepB K H O v (.bl i)) : v = .bl i := by
  rcases h with h | ⟨a, e1, h⟩
  · cases h; rfl
  · exact h.elim
theorem RepB.str {i : Str} (h : RepB K H O v (.str i)) : v = .str i := by
  rcases h with h | ⟨a, e1, h⟩
  · cases h; rfl
  · exact h.elim
theorem RepB.non (h : RepB K H O v .non) : v = .non := by
  rcases h with h | ⟨a, e1, h⟩
  · cases h; rfl
  · exact h.elim
theorem RepB.ty {n : String} (h : RepB K H O v (.ty n)) : v = .ty n := by
  rcases h with h | ⟨a, e1, h⟩
  · cases h; rfl
  · exact h.elim
theorem RepB.obj {c : Str} {gs : List (Str × D)} (h : RepB K H O v (.obj c gs)) : ∃ a dx fs, v = .ref a ∧ H a = some (.ins (He.ga K c) dx fs) ∧ RepFs K H O fs gs := by
  rcases h with h | ⟨a, e1, h⟩
  · cases h with
    | obj h n r => exact ⟨_, _, _, rfl, h, r⟩
  · obtain ⟨dx, fs, e, r⟩ := h
    exact ⟨a, dx, fs, e1, e, r⟩
theorem RepB.weak (h : RepB K H O v d) : Rep K H (fun _ => False) v d := by
  rcases h with h | ⟨a, e1, h⟩
  · exact h.less fun _ z => z.elim
  · subst e1; exact h.freeze (fun z => z) fun _ z => z.elim
theorem RepN.frz {p : Addr} (h : RepN K H (Ad O p) v d p) (n : ¬ O p) : Rep K H O v d := by
  obtain ⟨e, _, h⟩ := h
  subst e
  exact h.freeze n fun _ q => .inl q
theorem RepN.b {p : Addr} (h : RepN K H (Ad O p) v d p) : RepB K H O v d := .inr ⟨p, h.1, h.2.2.less fun _ q => .inl q⟩
end

/-! ### readings -/
abbrev EX := L2.St → XK
def Po (K : PySem.W.Frag) (E : EX) (σ : L2.St) (H : Hp) {α : Type} (r : Res α) (P : α → Prop) : Prop :=
  match r with
  | .ok a => P a
  | .exc c => ∀ H', Same H H' → E σ (.ref (He.ga K c)) none H'
  | .bad => False
section
variable {K : PySem.W.Frag} {E : EX} {σ : L2.St} {H H' : Hp} {α β : Type}
theorem Po.bind {r : Res α} {k : α → Res β} {P : β → Prop} (h : Po K E σ H (r >>= k) P) : Po K E σ H r fun a => Po K E σ H (k a) P := by
  cases r with
  | ok a => exact h
  | exc c => exact h
  | bad => exact h
theorem Po.imp {r : Res α} {P P' : α → Prop} (h : Po K E σ H r P) (i : ∀ a, P a → P' a) : Po K E σ H r P' := by
  cases r with
  | ok a => exact i a h
  | exc c => exact h
  | bad => exact h
theorem Po.later {r : Res α} {P : α → Prop} (e : Same H H') (h : Po K E σ H r P) : Po K E σ H' r P := by
  cases r with
  | ok a => exact h
  | exc c => exact fun H2 e2 => h H2 (e.trans e2)
  | bad => exact h
end
/-- a value that is pure | new, its own object owned | read at once | a test | arguments | arguments that are read -/
def tEF (K : PySem.W.Frag) (E : EX) (f : Sls → Res D) : TE := fun σ H Q => ∃ ρ O F, Sta K H O σ ρ F ∧ Po K E σ H (f ρ) fun d => ∀ v H', Same H H' → Rep K H' O v d → Q v H'
def tEN (K : PySem.W.Frag) (E : EX) (f : Sls → Res D) : TE := fun σ H Q => ∃ ρ O F, Sta K H O σ ρ F ∧ Po K E σ H (f ρ) fun d => ∀ v a H', Same H H' → H a = none → RepN K H' (Ad O a) v d a → Q v H'
def tEB (K : PySem.W.Frag) (E : EX) (f : Sls → Res D) : TE := fun σ H Q => ∃ ρ O F, Sta K H O σ ρ F ∧ Po K E σ H (f ρ) fun d => ∀ v H', Same H H' → RepB K H' O v d → Q v H'
def tET (K : PySem.W.Frag) (E : EX) (f : Sls → Res Bool) : TT := fun σ H Q => ∃ ρ O F, Sta K H O σ ρ F ∧ Po K E σ H (f ρ) fun b => ∀ H', Same H H' → Q b H'
def tEA (K : PySem.W.Frag) (E : EX) (f : Sls → Res (List D)) : TA := fun σ H Q => ∃ ρ O F, Sta K H O σ ρ F ∧ Po K E σ H (f ρ) fun ds => ∀ vs H', Same H H' → Reps K H' O vs ds → Q vs H'
inductive RepBs (K : PySem.W.Frag) (H : Hp) (O : Addr → Prop) : List V → List D → Prop
  | nil : RepBs K H O [] []
  | cons {v : V} {d : D} {vs : List V} {ds : List D} : RepB K H O v d → RepBs K H O vs ds → RepBs K H O (v :: vs) (d :: ds)
theorem RepBs.weak {K : PySem.W.Frag} {H : Hp} {O : Addr → Prop} : ∀ {vs : List V} {ds : List D}, RepBs K H O vs ds → Reps K H (fun _ => False) vs ds
  | _, _, .nil => .nil
  | _, _, .cons r t => .cons r.weak t.weak
def tEC (K : PySem.W.Frag) (E : EX) (f : Sls → Res (List D)) : TA := fun σ H Q => ∃ ρ O F, Sta K H O σ ρ F ∧ Po K E σ H (f ρ) fun ds => ∀ vs H', Same H H' → RepBs K H' O vs ds → Q vs H'
abbrev EF (X : Cx) (E : EX) (e : Expr) (f : Sls → Res D) : Prop := PE X e (tEF X.K E f)
abbrev EN (X : Cx) (E : EX) (e : Expr) (f : Sls → Res D) : Prop := PE X e (tEN X.K E f)
abbrev EB (X : Cx) (E : EX) (e : Expr) (f : Sls → Res D) : Prop := PE X e (tEB X.K E f)
abbrev ET (X : Cx) (E : EX) (e : Expr) (f : Sls → Res Bool) : Prop := PT X e (tET X.K E f)
abbrev EW (X : Cx) (E : EX) (e : Expr) (f : Sls → Res Bool) : Prop := PW X e (tET X.K E f)
abbrev EA (X : Cx) (E : EX) (es : List Expr) (f : Sls → Res (List D)) : Prop := PA X es (tEA X.K E f)
abbrev EC (X : Cx) (E : EX) (es : List Expr) (f : Sls → Res (List D)) : Prop := PA X es (tEC X.K E f)

section
variable {X : Cx}
theorem pe_imp {e : Expr} {t t' : TE} (h : PE X e t) (i : ∀ σ H Q, t' σ H Q → t σ H Q) : PE X e t' := ⟨fun pins s σ H Q I q => h.run pins s σ H Q I (i σ H Q q)⟩
theorem pt_imp {e : Expr} {t t' : TT} (h : PT X e t) (i : ∀ σ H Q, t' σ H Q → t σ H Q) : PT X e t' := ⟨fun pins s σ H Q I q => h.run pins s σ H Q I (i σ H Q q)⟩
theorem pw_imp {e : Expr} {t t' : TT} (h : PW X e t) (i : ∀ σ H Q, t' σ H Q → t σ H Q) : PW X e t' := ⟨fun w pins s σ H Q I q => h.run w pins s σ H Q I (i σ H Q q)⟩
theorem pa_imp {e : List Expr} {t t' : TA} (h : PA X e t) (i : ∀ σ H Q, t' σ H Q → t σ H Q) : PA X e t' := ⟨fun p pins s σ H Q I q => h.run p pins s σ H Q I (i σ H Q q)⟩
theorem ps_imp {e : Stmt} {t t' : TS} (h : PS X e t) (i : ∀ D σ H, t' D σ H → t D σ H) : PS X e t' := ⟨fun pins s σ H D I q => h.run pins s σ H D I (i D σ H q)⟩
theorem pss_imp {e : List Stmt} {t t' : TS} (h : PSs X e t) (i : ∀ D σ H, t' D σ H → t D σ H) : PSs X e t' := ⟨fun pins s σ H D I q => h.run pins s σ H D I (i D σ H q)⟩
variable {E : EX} {e : Expr} {f : Sls → Res D}
/-! ### from one to another -/
theorem EF.b (h : EF X E e f) : EB X E e f := pe_imp h fun σ H Q ⟨ρ, O, F, s, p⟩ => ⟨ρ, O, F, s, p.imp fun d k v H' e r => k v H' e (.inl r)⟩
theorem not_new {K : PySem.W.Frag} {H : Hp} {O : Addr → Prop} {σ : L2.St} {ρ : Sls} {F : List Addr} (s : Sta K H O σ ρ F) {a : Addr} (n : H a = none) : ¬ O a := fun h => (s.dom a h).1 n
theorem EN.fz (h : EN X E e f) : EF X E e f := pe_imp h fun σ H Q ⟨ρ, O, F, s, p⟩ => ⟨ρ, O, F, s, p.imp fun d k v a H' e n r => k v H' e (r.frz (not_new s n))⟩
theorem EN.b (h : EN X E e f) : EB X E e f := pe_imp h fun σ H Q ⟨ρ, O, F, s, p⟩ => ⟨ρ, O, F, s, p.imp fun d k v a H' e n r => k v H' e r.b⟩
theorem EW.t {f : Sls → Res Bool} (h : EW X E e f) : ET X E e f := h.pt

/-! ### names, constants -/
def mVar (i : Nat) : Sls → Res D := fun ρ => match ρ[i]? with
  | some (.fz d) => ok d
  | _ => bad
def mVarB (i : Nat) : Sls → Res D := fun ρ => match ρ[i]? with
  | some (.fz d) => ok d
  | some (.ow d) => ok d
  | some (.me _ d) => ok d
  | _ => bad
def mC (d : D) : Sls → Res D := fun _ => ok d
theorem ef_var (i : Nat) {x : Str} {pos : Pos} (hN : X.N[i]? = some x := by rfl) (hv : Vis X.env.scope x := by first | exact Or.inl rfl | exact Or.inr (Or.inl rfl) | exact Or.inr (Or.inr rfl)) (hd : (x == ("__debug__" : Str)) = false := by decide)
    (hcd : (x == ("__classdict__" : Str)) = false := by decide) : EF X E (.Name x pos) (mVar i) := pe_imp (pe_var hN hv hd hcd) fun σ H Q ⟨ρ, O, F, s, p⟩ => by
  unfold mVar at p
  cases e : ρ[i]? with
  | none => rw [e] at p; exact p.elim
  | some q =>
    cases q with
    | fz d =>
      rw [e] at p
      obtain ⟨v, h1, h2⟩ := s.st.getF e
      exact ⟨v, h1, p v H (Same.refl H) h2⟩
    | _ => rw [e] at p; exact p.elim
theorem eb_var (i : Nat) {x : Str} {pos : Pos} (hN : X.N[i]? = some x := by rfl) (hv : Vis X.env.scope x := by first | exact Or.inl rfl | exact Or.inr (Or.inl rfl) | exact Or.inr (Or.inr rfl)) (hd : (x == ("__debug__" : Str)) = false := by decide)
    (hcd : (x == ("__classdict__" : Str)) = false := by decide) : EB X E (.Name x pos) (mVarB i) := pe_imp (pe_var hN hv hd hcd) fun σ H Q ⟨ρ, O, F, s, p⟩ => by
  unfold mVarB at p
  cases e : ρ[i]? with
  | none => rw [e] at p; exact p.elim
  | some q =>
    cases q with
    | fz d =>
      rw [e] at p
      obtain ⟨v, h1, h2⟩ := s.st.getF e
      exact ⟨v, h1, p v H (Same.refl H) (.inl h2)⟩
    | ow d =>
      rw [e] at p
      obtain ⟨a, h1, _, _, h2⟩ := s.st.getO e
      exact ⟨_, h1, p _ H (Same.refl H) (.inr ⟨a, rfl, h2⟩)⟩
    | me a d =>
      rw [e] at p
      obtain ⟨h1, _, _, h2⟩ := s.st.getM e
      exact ⟨_, h1, p _ H (Same.refl H) (.inr ⟨a, rfl, h2⟩)⟩
    | _ => rw [e] at p; exact p.elim
theorem ef_c {v : V} {d : D} (h : PE X e (tC v)) (r : ∀ H O, Rep X.K H O v d) : EF X E e (mC d) := pe_imp h fun σ H Q ⟨ρ, O, F, s, p⟩ => p v H (Same.refl H) (r H O)
theorem ef_int {i : Int} {j : Nat} {pos : Pos} : EF X E (.Constant (.int i) j pos) (mC (.int i)) := ef_c pe_int fun _ _ => .int i
theorem ef_bl {b : Bool} {j : Nat} {pos : Pos} : EF X E (.Constant (.bool b) j pos) (mC (.bl b)) := ef_c pe_bl fun _ _ => .bl b
theorem ef_non {j : Nat} {pos : Pos} : EF X E (.Constant .none j pos) (mC .non) := ef_c pe_non fun _ _ => .non
theorem ef_str {x : Str} {j : Nat} {pos : Pos} : EF X E (.Constant (.str x) j pos) (mC (.str x)) := ef_c pe_str fun _ _ => .str x
theorem ef_gint {x : Str} {i : Int} {pos : Pos} (hm : ∃ t, X.mg x = some (.int i t)) (hg : Gl X x := by rfl) (hd : (x == ("__debug__" : Str)) = false := by decide) : EF X E (.Name x pos) (mC (.int i)) := by
  obtain ⟨t, hm⟩ := hm
  exact ef_c (v := .int i) (pe_glob hg hm ⟨t, rfl⟩ hd) fun _ _ => .int i
theorem ef_gstr {x z : Str} {pos : Pos} (hm : ∃ t, X.mg x = some (.str z t)) (hg : Gl X x := by rfl) (hd : (x == ("__debug__" : Str)) = false := by decide) : EF X E (.Name x pos) (mC (.str z)) := by
  obtain ⟨t, hm⟩ := hm
  exact ef_c (v := .str z) (pe_glob hg hm ⟨t, rfl⟩ hd) fun _ _ => .str z
theorem ef_bty {x : Str} {n : String} {pos : Pos} (hm : X.mg x = none) (hg : Gl X x := by rfl) (hv : bootBuiltins x = some (.type n) := by decide +kernel) (hn : x ≠ "__name__" := by decide) (hd : (x == ("__debug__" : Str)) = false := by decide) : EF X E (.Name x pos) (mC (.ty n)) :=
  ef_c (v := .ty n) (pe_bltn hg hm hv rfl hn hd) fun _ _ => .ty n

/-! ### operators -/
def ofO {α : Type} : Option α → Res α
  | some a => ok a
  | none => bad
@[simp] theorem ofO_some {α : Type} (a : α) : ofO (some a) = ok a := rfl
@[simp] theorem ofO_none {α : Type} : ofO (none : Option α) = bad := rfl
/-- what a pure | a new answer is to reach -/
def VP (K : PySem.W.Frag) (H : Hp) (O : Addr → Prop) (Q : VK) : Option D → Prop
  | some d => ∀ v H', Same H H' → Rep K H' O v d → Q v H'
  | none => False
def VN (K : PySem.W.Frag) (H : Hp) (O : Addr → Prop) (Q : VK) : Option D → Prop
  | some d => ∀ v a H', Same H H' → H a = none → RepN K H' (Ad O a) v d a → Q v H'
  | none => False
theorem Po.vp {K : PySem.W.Frag} {E : EX} {σ : L2.St} {H H' : Hp} {O : Addr → Prop} {Q : VK} {r : Option D} (e : Same H H') (h : Po K E σ H (ofO r) fun d => ∀ v H', Same H H' → Rep K H' O v d → Q v H') : VP K H' O Q r := by
  cases r with
  | none => exact h.elim
  | some d => exact fun v H2 e2 r => h v H2 (e.trans e2) r
theorem Po.vn {K : PySem.W.Frag} {E : EX} {σ : L2.St} {H H' : Hp} {O : Addr → Prop} {Q : VK} {r : Option D} (e : Same H H') (h : Po K E σ H (ofO r) fun d => ∀ v a H', Same H H' → H a = none → RepN K H' (Ad O a) v d a → Q v H') : VN K H' O Q r := by
  cases r with
  | none => exact h.elim
  | some d => exact fun v a H2 e2 n r => h v a H2 (e.trans e2) (e.free n) r
def mOp2 (h : D → D → Option D) (f g : Sls → Res D) : Sls → Res D := fun ρ => f ρ >>= fun x => g ρ >>= fun y => ofO (h x y)
def mOp1 (h : D → Option D) (f : Sls → Res D) : Sls → Res D := fun ρ => f ρ >>= fun x => ofO (h x)
abbrev Op2 (K : PySem.W.Frag) (r : R2) (h : D → D → Option D) : Prop := ∀ H O x y dx dy Q, Dom H O → RepB K H O x dx → RepB K H O y dy → VP K H O Q (h dx dy) → r x y H Q
abbrev Op2N (K : PySem.W.Frag) (r : R2) (h : D → D → Option D) : Prop := ∀ H O x y dx dy Q, Dom H O → RepB K H O x dx → RepB K H O y dy → VN K H O Q (h dx dy) → r x y H Q
variable {a b : Expr} {g : Sls → Res D} {h : D → D → Option D} {r : R2} {pos : Pos}
theorem seq2 {K : PySem.W.Frag} {k : D → D → Res D} {P : Hp → (Addr → Prop) → D → VK → Prop} {σ : L2.St} {H : Hp} {Q : VK} {R : V → V → Hp → Prop}
    (hq : ∃ ρ O F, Sta K H O σ ρ F ∧ Po K E σ H (f ρ >>= fun x => g ρ >>= fun y => k x y) fun d => P H O d Q)
    (go : ∀ O H1 x y dx dy, Same H H1 → Dom H1 O → RepB K H1 O x dx → RepB K H1 O y dy → (Po K E σ H (k dx dy) fun d => P H O d Q) → R x y H1) :
    tEB K E f σ H fun x H1 => tEB K E g σ H1 fun y H2 => R x y H2 := by
  obtain ⟨ρ, O, F, s, p⟩ := hq
  refine ⟨ρ, O, F, s, p.bind.imp fun dx p1 x H1 e1 r1 => ⟨ρ, O, F, s.same e1, (p1.bind.imp fun dy p2 y H2 e2 r2 => ?_).later e1⟩⟩
  exact go O H2 x y dx dy (e1.trans e2) (s.same (e1.trans e2)).dom (r1.same e2) r2 p2
theorem ef_op {op : Operator} (ho : OpR X (binaryOp op) r) (hh : Op2 X.K r h) (ha : EB X E a f) (hb : EB X E b g) : EF X E (.BinOp a op b pos) (mOp2 h f g) :=
  pe_imp (pe_op ho ha hb) fun σ H Q hq => seq2 (P := fun H O d Q => ∀ v H', Same H H' → Rep X.K H' O v d → Q v H') hq fun O H1 x y dx dy e1 d1 rx ry p => hh H1 O x y dx dy Q d1 rx ry (p.vp e1)
theorem en_op {op : Operator} (ho : OpR X (binaryOp op) r) (hh : Op2N X.K r h) (ha : EB X E a f) (hb : EB X E b g) : EN X E (.BinOp a op b pos) (mOp2 h f g) :=
  pe_imp (pe_op ho ha hb) fun σ H Q hq => seq2 (P := fun H O d Q => ∀ v a H', Same H H' → H a = none → RepN X.K H' (Ad O a) v d a → Q v H') hq fun O H1 x y dx dy e1 d1 rx ry p => hh H1 O x y dx dy Q d1 rx ry (p.vn e1)
theorem ef_cmp {op : CmpOp} (ho : OpR X (compareOp op) r) (hh : Op2 X.K r h) (ha : EB X E a f) (hb : EB X E b g) (hm : behindInMarks op b = false) : EF X E (.Compare a [op] [b] pos) (mOp2 h f g) :=
  pe_imp (pe_cmpR ho ha hb hm) fun σ H Q hq => seq2 (P := fun H O d Q => ∀ v H', Same H H' → Rep X.K H' O v d → Q v H') hq fun O H1 x y dx dy e1 d1 rx ry p => hh H1 O x y dx dy Q d1 rx ry (p.vp e1)
/-- a bool of a value -/
def asB : D → Option Bool
  | .bl b => some b
  | _ => none
def mT (f : Sls → Res D) : Sls → Res Bool := fun ρ => f ρ >>= fun x => ofO (asB x)
theorem Po.asB {K : PySem.W.Frag} {E : EX} {σ : L2.St} {H H1 : Hp} {O : Addr → Prop} {Q : Bool → Hp → Prop} {r : Option D} (e : Same H H1) (p : Po K E σ H (ofO r >>= fun x => ofO (PP.asB x)) fun b => ∀ H', Same H H' → Q b H') : VP K H1 O (fun x H' => ∃ k, x = V.bl k ∧ Q k H') r := by
  cases r with
  | none => exact p.elim
  | some d =>
    cases d with
    | bl b =>
      intro v H2 e2 rv
      cases rv
      exact ⟨b, rfl, p H2 (e.trans e2)⟩
    | _ => exact p.elim
theorem res_assoc {α β γ : Type} (r : Res α) (k : α → Res β) (l : β → Res γ) : ((r >>= k) >>= l) = (r >>= fun x => k x >>= l) := by cases r <;> rfl
theorem et_cmp {op : CmpOp} (ho : OpR X (compareOp op) r) (hh : Op2 X.K r h) (ha : EB X E a f) (hb : EB X E b g) (hm : behindInMarks op b = false) : ET X E (.Compare a [op] [b] pos) (mT (mOp2 h f g)) :=
  pt_imp (pt_cmpR ho ha hb hm) fun σ H Q ⟨ρ, O, F, s, p⟩ => by
    have p' : Po X.K E σ H (f ρ >>= fun x => g ρ >>= fun y => (ofO (h x y) >>= fun x => ofO (PP.asB x))) fun b => ∀ H', Same H H' → Q b H' := by
      have p0 : Po X.K E σ H ((f ρ >>= fun x => g ρ >>= fun y => ofO (h x y)) >>= fun x => ofO (PP.asB x)) fun b => ∀ H', Same H H' → Q b H' := p
      simpa only [res_assoc] using p0
    refine ⟨ρ, O, F, s, p'.bind.imp fun dx p1 x H1 e1 r1 => ⟨ρ, O, F, s.same e1, (p1.bind.imp fun dy p2 y H2 e2 r2 => ?_).later e1⟩⟩
    exact hh H2 O x y dx dy _ (s.same (e1.trans e2)).dom (r1.same e2) r2 (p2.asB (e1.trans e2))
theorem et_val (ha : EF X E e f) (he : ∀ whole, isTrue e X.env whole = (do let v ← whole; standAt e.pos; holding [v] (truthy v)) := by intro _; rfl) : ET X E e (mT f) :=
  pt_imp (pt_val ha he) fun σ H Q ⟨ρ, O, F, s, p⟩ => ⟨ρ, O, F, s, by
    refine p.bind.imp fun d p1 v H1 e1 r1 => ?_
    cases d with
    | bl b => cases r1; exact ⟨b, rfl, p1 H1 e1⟩
    | _ => exact p1.elim⟩
/-! ### and, or, not -/
def mAnd (f g : Sls → Res Bool) : Sls → Res Bool := fun ρ => f ρ >>= fun b => if b then g ρ else ok false
def mOr (f g : Sls → Res Bool) : Sls → Res Bool := fun ρ => f ρ >>= fun b => if b then ok true else g ρ
def mNot (f : Sls → Res Bool) : Sls → Res Bool := fun ρ => f ρ >>= fun b => ok (!b)
variable {tf tg : Sls → Res Bool} {rest : List Expr}
theorem ew_and1 (ha : ET X E a tf) : EW X E (.BoolOp .And [a] pos) tf := pw_and1 ha
theorem ew_or1 (ha : ET X E a tf) : EW X E (.BoolOp .Or [a] pos) tf := pw_or1 ha
theorem ew_and (ha : ET X E a tf) (hb : EW X E (.BoolOp .And (b :: rest) pos) tg) : EW X E (.BoolOp .And (a :: b :: rest) pos) (mAnd tf tg) :=
  pw_imp (pw_and ha hb) fun σ H Q ⟨ρ, O, F, s, p⟩ => ⟨ρ, O, F, s, p.bind.imp fun c p1 H1 e1 => by
    cases c with
    | true => exact iteT ⟨ρ, O, F, s.same e1, (Po.later e1 p1).imp fun _ k H2 e2 => k H2 (e1.trans e2)⟩
    | false => exact iteF (p1 H1 e1)⟩
theorem ew_or (ha : ET X E a tf) (hb : EW X E (.BoolOp .Or (b :: rest) pos) tg) : EW X E (.BoolOp .Or (a :: b :: rest) pos) (mOr tf tg) :=
  pw_imp (pw_or ha hb) fun σ H Q ⟨ρ, O, F, s, p⟩ => ⟨ρ, O, F, s, p.bind.imp fun c p1 H1 e1 => by
    cases c with
    | true => exact iteT (p1 H1 e1)
    | false => exact iteF ⟨ρ, O, F, s.same e1, (Po.later e1 p1).imp fun _ k H2 e2 => k H2 (e1.trans e2)⟩⟩
theorem et_not (ha : ET X E a tf) : ET X E (.UnaryOp .Not a pos) (mNot tf) :=
  pt_imp (pt_not ha) fun σ H Q ⟨ρ, O, F, s, p⟩ => ⟨ρ, O, F, s, p.bind⟩
def mBV (f : Sls → Res Bool) : Sls → Res D := fun ρ => f ρ >>= fun b => ok (.bl b)
/-- .. as values -/
def mAndV (f g : Sls → Res D) : Sls → Res D := fun ρ => f ρ >>= fun x => ofO (asB x) >>= fun b => if b then g ρ else ok (.bl false)
def mOrV (f g : Sls → Res D) : Sls → Res D := fun ρ => f ρ >>= fun x => ofO (asB x) >>= fun b => if b then ok (.bl true) else g ρ
def mNotV (f : Sls → Res D) : Sls → Res D := fun ρ => f ρ >>= fun x => ofO (asB x) >>= fun b => ok (.bl (!b))
theorem ef_one {op : BoolOp} (ha : EF X E a f) : EF X E (.BoolOp op [a] pos) f := pe_one ha
theorem ef_and (ha : EF X E a f) (hb : EF X E (.BoolOp .And (b :: rest) pos) g) : EF X E (.BoolOp .And (a :: b :: rest) pos) (mAndV f g) :=
  pe_imp (pe_and ha hb) fun σ H Q ⟨ρ, O, F, s, p⟩ => ⟨ρ, O, F, s, p.bind.imp fun d p1 v H1 e1 r1 => by
    cases d with
    | bl c =>
      cases r1
      refine ⟨c, rfl, ?_⟩
      cases c with
      | true => exact iteT ⟨ρ, O, F, s.same e1, (Po.later e1 p1).imp fun _ k v H2 e2 r => k v H2 (e1.trans e2) r⟩
      | false => exact iteF (p1 _ H1 e1 (.bl false))
    | _ => exact p1.elim⟩
theorem ef_or (ha : EF X E a f) (hb : EF X E (.BoolOp .Or (b :: rest) pos) g) : EF X E (.BoolOp .Or (a :: b :: rest) pos) (mOrV f g) :=
  pe_imp (pe_or ha hb) fun σ H Q ⟨ρ, O, F, s, p⟩ => ⟨ρ, O, F, s, p.bind.imp fun d p1 v H1 e1 r1 => by
    cases d with
    | bl c =>
      cases r1
      refine ⟨c, rfl, ?_⟩
      cases c with
      | true => exact iteT (p1 _ H1 e1 (.bl true))
      | false => exact iteF ⟨ρ, O, F, s.same e1, (Po.later e1 p1).imp fun _ k v H2 e2 r => k v H2 (e1.trans e2) r⟩
    | _ => exact p1.elim⟩
theorem ef_not (ha : EF X E a f) : EF X E (.UnaryOp .Not a pos) (mNotV f) :=
  pe_imp (pe_not ha) fun σ H Q ⟨ρ, O, F, s, p⟩ => ⟨ρ, O, F, s, p.bind.imp fun d p1 v H1 e1 r1 => by
    cases d with
    | bl c => cases r1; exact ⟨c, rfl, p1 _ H1 e1 (.bl _)⟩
    | _ => exact p1.elim⟩
def mIf (c : Sls → Res Bool) (f g : Sls → Res D) : Sls → Res D := fun ρ => c ρ >>= fun b => if b then f ρ else g ρ
theorem ef_if {c : Expr} (hc : ET X E c tf) (ha : EF X E a f) (hb : EF X E b g) : EF X E (.IfExp c a b pos) (mIf tf f g) :=
  pe_imp (pe_ifExp hc ha hb) fun σ H Q ⟨ρ, O, F, s, p⟩ => ⟨ρ, O, F, s, p.bind.imp fun c p1 H1 e1 => by
    cases c with
    | true => exact iteT ⟨ρ, O, F, s.same e1, (Po.later e1 p1).imp fun _ k v H2 e2 r => k v H2 (e1.trans e2) r⟩
    | false => exact iteF ⟨ρ, O, F, s.same e1, (Po.later e1 p1).imp fun _ k v H2 e2 r => k v H2 (e1.trans e2) r⟩⟩
/-! ### chains a < b < c -/
def mChain (h1 h2 : D → D → Option D) (f g k : Sls → Res D) : Sls → Res D := fun ρ => f ρ >>= fun x => g ρ >>= fun y => ofO (h1 x y) >>= fun z => ofO (asB z) >>= fun b => if b then (k ρ >>= fun w => ofO (h2 y w)) else ok (.bl false)
end
end PP

namespace PP
open PySem PySem.Spec PyProof.Rows L2
open Res (ok exc bad)
section
variable {X : Cx} {E : EX} {a b c e : Expr} {f g k : Sls → Res D} {h h1 h2 : D → D → Option D} {r r' : R2} {pos : Pos}
/-! ### chains a < b < c -/
theorem chain_go {σ : L2.St} {H : Hp} {Q : VK} (hh : Op2 X.K r h1) (hh' : Op2 X.K r' h2) (hq : tEF X.K E (mChain h1 h2 f g k) σ H Q) :
    tChain r r' (tEB X.K E f) (tEB X.K E g) (tEB X.K E k) σ H Q := by
  obtain ⟨ρ, O, F, s, p⟩ := hq
  refine ⟨ρ, O, F, s, p.bind.imp fun dx p1 x H1 e1 r1 => ⟨ρ, O, F, s.same e1, (p1.bind.imp fun dy p2 y H2 e2 r2 => ?_).later e1⟩⟩
  have e12 := e1.trans e2
  refine hh H2 O x y dx dy _ (s.same e12).dom (r1.same e2) r2 ?_
  have p2' : Po X.K E σ H (ofO (h1 dx dy) >>= fun z => ofO (asB z) >>= fun b => if b then (k ρ >>= fun w => ofO (h2 dy w)) else ok (.bl false)) fun d => ∀ v H', Same H H' → Rep X.K H' O v d → Q v H' := p2
  cases q : h1 dx dy with
  | none => rw [q] at p2'; exact p2'.elim
  | some z =>
    rw [q] at p2'
    cases z with
    | bl b =>
      intro v H3 e3 rv
      cases rv
      refine ⟨b, rfl, ?_⟩
      have e13 := e12.trans e3
      cases b with
      | true =>
        refine iteT ⟨ρ, O, F, s.same e13, ((show Po X.K E σ H (k ρ >>= fun w => ofO (h2 dy w)) _ from p2').bind.imp fun dz p3 z H4 e4 r3 => ?_).later e13⟩
        exact hh' H4 O y z dy dz _ (s.same (e13.trans e4)).dom ((r2.same e3).same e4) r3 (p3.vp (e13.trans e4))
      | false => exact iteF (p2' _ H3 e13 (.bl false))
    | _ => exact p2'.elim
theorem ef_chain {op op' : CmpOp} (ho : OpR X (compareOp op) r) (ho' : OpR X (compareOp op') r') (hh : Op2 X.K r h1) (hh' : Op2 X.K r' h2) (ha : EB X E a f) (hb : EB X E b g) (hc : EB X E c k)
    (hm : lastMarks [op, op'] [b, c] = false := by with_unfolding_all rfl) : EF X E (.Compare a [op, op'] [b, c] pos) (mChain h1 h2 f g k) :=
  pe_imp (pe_chain ho ho' ha hb hc hm) fun σ H Q hq => chain_go hh hh' hq
theorem et_chain {op op' : CmpOp} (ho : OpR X (compareOp op) r) (ho' : OpR X (compareOp op') r') (hh : Op2 X.K r h1) (hh' : Op2 X.K r' h2) (ha : EB X E a f) (hb : EB X E b g) (hc : EB X E c k)
    (hm : lastMarks [op, op'] [b, c] = false := by with_unfolding_all rfl) : ET X E (.Compare a [op, op'] [b, c] pos) (mT (mChain h1 h2 f g k)) :=
  pt_imp (pt_chain ho ho' ha hb hc hm) fun σ H Q ⟨ρ, O, F, s, p⟩ => by
    refine chain_go (Q := fun x H' => ∃ k, x = V.bl k ∧ Q k H') hh hh' ⟨ρ, O, F, s, p.bind.imp fun d p1 v H1 e1 r1 => ?_⟩
    cases d with
    | bl b => cases r1; exact ⟨b, rfl, p1 H1 e1⟩
    | _ => exact p1.elim

/-! ### argument lists -/
variable {es : List Expr} {fs : List (Sls → Res D)}
def mArgs : List (Sls → Res D) → Sls → Res (List D)
  | [], _ => ok []
  | f :: fs, ρ => f ρ >>= fun x => mArgs fs ρ >>= fun xs => ok (x :: xs)
theorem mArgs_length : ∀ {fs : List (Sls → Res D)} {ρ : Sls} {ds : List D}, mArgs fs ρ = ok ds → ds.length = fs.length
  | [], _, _, h => by cases h; rfl
  | f :: fs, ρ, ds, h => by
    have h' : (f ρ >>= fun x => mArgs fs ρ >>= fun xs => ok (x :: xs)) = ok ds := h
    cases e1 : f ρ with
    | ok x =>
      rw [e1] at h'
      cases e2 : mArgs fs ρ with
      | ok xs =>
        simp [e2] at h'
        subst h'
        simp [mArgs_length e2]
      | _ => simp [e2] at h'
    | _ => rw [e1] at h'; cases h'
theorem Po.eq {K : PySem.W.Frag} {E : EX} {σ : L2.St} {H : Hp} {α : Type} {r : Res α} {P : α → Prop} (h : Po K E σ H r P) : Po K E σ H r fun a => r = ok a ∧ P a := by
  cases r with
  | ok a => exact ⟨rfl, h⟩
  | _ => exact h
theorem ea_nil : EA X E [] (mArgs []) := pa_imp pa_nil fun σ H Q ⟨ρ, O, F, s, p⟩ => p [] H (Same.refl H) .nil
theorem ea_cons (ha : EF X E e f) (hr : EA X E es (mArgs fs)) (hs : starEach (e :: es) X.env = (false, eval e X.env) :: starEach es X.env := by rfl) : EA X E (e :: es) (mArgs (f :: fs)) :=
  pa_imp (pa_cons ha hr hs) fun σ H Q ⟨ρ, O, F, s, p⟩ => ⟨ρ, O, F, s, (show Po X.K E σ H (f ρ >>= fun x => mArgs fs ρ >>= fun xs => ok (x :: xs)) _ from p).bind.imp fun dx p1 x H1 e1 r1 => ⟨ρ, O, F, s.same e1, (p1.bind.imp fun ds p2 vs H2 e2 r2 => p2 _ H2 (e1.trans e2) (.cons (r1.same e2) r2)).later e1⟩⟩
theorem RepBs.same {K : PySem.W.Frag} {H H' : Hp} {O : Addr → Prop} (e : Same H H') : ∀ {vs : List V} {ds : List D}, RepBs K H O vs ds → RepBs K H' O vs ds
  | _, _, .nil => .nil
  | _, _, .cons r t => .cons (r.same e) (RepBs.same e t)
theorem RepBs.length {K : PySem.W.Frag} {H : Hp} {O : Addr → Prop} : ∀ {vs : List V} {ds : List D}, RepBs K H O vs ds → vs.length = ds.length
  | _, _, .nil => rfl
  | _, _, .cons _ t => congrArg (· + 1) t.length
theorem ec_nil : EC X E [] (mArgs []) := pa_imp pa_nil fun σ H Q ⟨ρ, O, F, s, p⟩ => p [] H (Same.refl H) .nil
theorem ec_cons (ha : EB X E e f) (hr : EC X E es (mArgs fs)) (hs : starEach (e :: es) X.env = (false, eval e X.env) :: starEach es X.env := by rfl) : EC X E (e :: es) (mArgs (f :: fs)) :=
  pa_imp (pa_cons ha hr hs) fun σ H Q ⟨ρ, O, F, s, p⟩ => ⟨ρ, O, F, s, (show Po X.K E σ H (f ρ >>= fun x => mArgs fs ρ >>= fun xs => ok (x :: xs)) _ from p).bind.imp fun dx p1 x H1 e1 r1 => ⟨ρ, O, F, s.same e1, (p1.bind.imp fun ds p2 vs H2 e2 r2 => p2 _ H2 (e1.trans e2) (.cons (r1.same e2) r2)).later e1⟩⟩
/-! ### displays -/
theorem small_lim {n : Nat} (h : n ≤ 1000) : n ≤ sizeLine := Nat.le_trans h (by decide)
def mTup (fs : List (Sls → Res D)) : Sls → Res D := fun ρ => mArgs fs ρ >>= fun xs => ok (.tup xs)
def mLst (fs : List (Sls → Res D)) : Sls → Res D := fun ρ => mArgs fs ρ >>= fun xs => ok (.lst xs)
theorem RepN.newL {K : PySem.W.Frag} {H : Hp} {O : Addr → Prop} {p : Addr} {vs : List V} {ds : List D} (n : H p = none) (z : vs.length ≤ sizeLine) (r : Reps K H O vs ds) : RepN K (upd H p (.lst vs)) (Ad O p) (.ref p) (.lst ds) p :=
  ⟨rfl, .inr rfl, vs, upd_same, z, (r.more n).same (same_new n)⟩
theorem rep_newT {K : PySem.W.Frag} {H : Hp} {O : Addr → Prop} {p : Addr} {vs : List V} {ds : List D} (n : H p = none) (z : vs.length ≤ sizeLine) (r : Reps K H O vs ds) : Rep K (upd H p (.tup vs)) O (.ref p) (.tup ds) :=
  .tup (.of upd_same) z (r.same (same_new n))
theorem ef_tup {x1} (h : EA X E es (mArgs fs)) (hl : fs.length ≤ 1000 := by decide) : EF X E (.Tuple es x1 pos) (mTup fs) :=
  pe_imp (pe_tup h) fun σ H Q ⟨ρ, O, F, s, p⟩ => ⟨ρ, O, F, s, p.bind.eq.imp fun ds ⟨e0, p1⟩ vs H1 e1 r1 => by
    have z : vs.length ≤ sizeLine := by rw [r1.length, mArgs_length e0]; exact small_lim hl
    exact ⟨z, fun q n => p1 _ _ (e1.trans (same_new n)) (rep_newT n z r1)⟩⟩
theorem en_lst (h : EA X E es (mArgs fs)) (hl : fs.length ≤ 1000 := by decide) : EN X E (.List es pos) (mLst fs) :=
  pe_imp (pe_lst h) fun σ H Q ⟨ρ, O, F, s, p⟩ => ⟨ρ, O, F, s, p.bind.eq.imp fun ds ⟨e0, p1⟩ vs H1 e1 r1 => by
    have z : vs.length ≤ sizeLine := by rw [r1.length, mArgs_length e0]; exact small_lim hl
    exact ⟨z, fun q n => p1 _ q _ (e1.trans (same_new n)) (e1.free n) (.newL n z r1)⟩⟩

/-! ### calls of defs -/
/-- what a def promises: a pure answer | a new list -/
def spF (K : PySem.W.Frag) (f : List D → Res D) : Sp := fun vs H Q E => ∃ ds Z, Reps K H Z vs ds ∧ Dom H Z ∧ (match f ds with
  | .ok d => ∀ v H', Same H H' → Rep K H' Z v d → Q v H'
  | .exc c => ∀ H', Same H H' → E (.ref (He.ga K c)) none H'
  | .bad => False)
def spN (K : PySem.W.Frag) (f : List D → Res D) : Sp := fun vs H Q E => ∃ ds Z, Reps K H Z vs ds ∧ Dom H Z ∧ (match f ds with
  | .ok d => ∀ v a H', Same H H' → H a = none → RepN K H' (Ad Z a) v d a → Q v H'
  | .exc c => ∀ H', Same H H' → E (.ref (He.ga K c)) none H'
  | .bad => False)
def mCall (F : List D → Res D) (fs : List (Sls → Res D)) : Sls → Res D := fun ρ => mArgs fs ρ >>= F
variable {CX : CXT} {n : Nat} {fa : Addr} {fd : FuncData} {ps : List Str} {x : Str} {p : Pos} {F : List D → Res D}
theorem ef_call (G : FnOk X.prog X.w X.K X.mg X.base CX n fa fd ps (spF X.K F)) (hr : Room n X.A) (hm : X.mg x = some (.ref fa)) (hk : PySem.W.keepIn X.K (.ref fa) = true) (hb : Binds X.K fd ps []) (hx : ∀ σ, PassesAt CX X σ (E σ))
    (ha : EA X E (e :: es) (mArgs fs)) (hg : Gl X x := by rfl) (hdb : (x == ("__debug__" : Str)) = false := by decide) (he : starEach (e :: es) X.env = (false, eval e X.env) :: starEach es X.env := by rfl) (hpl : (backTo pos (starEach es X.env)).any (·.1) = false := by rfl) :
    EF X E (.Call (.Name x p) (e :: es) [] pos) (mCall F fs) :=
  pe_imp (pe_callS G hr hg hm hk hb hx ha hdb he hpl) fun σ H Q ⟨ρ, O, FF, s, p⟩ => ⟨ρ, O, FF, s, p.bind.imp fun ds p1 vs H1 e1 r1 => ⟨ds, O, r1, (s.same e1).dom, by
    cases q : F ds with
    | ok d => rw [q] at p1; exact fun v H2 e2 r2 => p1 v H2 (e1.trans e2) r2
    | exc c => rw [q] at p1; exact fun H2 e2 => p1 H2 (e1.trans e2)
    | bad => rw [q] at p1; exact p1⟩⟩
theorem en_call (G : FnOk X.prog X.w X.K X.mg X.base CX n fa fd ps (spN X.K F)) (hr : Room n X.A) (hm : X.mg x = some (.ref fa)) (hk : PySem.W.keepIn X.K (.ref fa) = true) (hb : Binds X.K fd ps []) (hx : ∀ σ, PassesAt CX X σ (E σ))
    (ha : EA X E (e :: es) (mArgs fs)) (hg : Gl X x := by rfl) (hdb : (x == ("__debug__" : Str)) = false := by decide) (he : starEach (e :: es) X.env = (false, eval e X.env) :: starEach es X.env := by rfl) (hpl : (backTo pos (starEach es X.env)).any (·.1) = false := by rfl) :
    EN X E (.Call (.Name x p) (e :: es) [] pos) (mCall F fs) :=
  pe_imp (pe_callS G hr hg hm hk hb hx ha hdb he hpl) fun σ H Q ⟨ρ, O, FF, s, p⟩ => ⟨ρ, O, FF, s, p.bind.imp fun ds p1 vs H1 e1 r1 => ⟨ds, O, r1, (s.same e1).dom, by
    cases q : F ds with
    | ok d => rw [q] at p1; exact fun v a H2 e2 n r2 => p1 v a H2 (e1.trans e2) (e1.free n) r2
    | exc c => rw [q] at p1; exact fun H2 e2 => p1 H2 (e1.trans e2)
    | bad => rw [q] at p1; exact p1⟩⟩
/-- plain: no list, no object in it -/
def D.plain : D → Bool
  | .lst _ => false
  | .kl _ => false
  | .obj _ _ => false
  | .dct _ => false
  | .tup xs => plains xs
  | _ => true
where plains : List D → Bool
  | [] => true
  | x :: xs => x.plain && plains xs
mutual
theorem Rep.plain {K : PySem.W.Frag} {H : Hp} {O O' : Addr → Prop} : ∀ {v d}, Rep K H O v d → d.plain = true → Rep K H O' v d
  | _, _, .non, _ => .non
  | _, _, .bl b, _ => .bl b
  | _, _, .int i, _ => .int i
  | _, _, .str x, _ => .str x
  | _, _, .ty n, _ => .ty n
  | _, _, .tup h z r, q => .tup h z (Reps.plain r (by simpa [D.plain] using q))
  | _, _, .lst h n z r, q => by simp [D.plain] at q
  | _, _, .kl h z r, q => by simp [D.plain] at q
  | _, _, .obj h n r, q => by simp [D.plain] at q
  | _, _, .dct h n z y r, q => by simp [D.plain] at q
theorem Reps.plain {K : PySem.W.Frag} {H : Hp} {O O' : Addr → Prop} : ∀ {vs ds}, Reps K H O vs ds → D.plain.plains ds = true → Reps K H O' vs ds
  | _, _, .nil, _ => .nil
  | _, _, .cons r t, q => by
    simp [D.plain.plains] at q
    exact .cons (Rep.plain r q.1) (Reps.plain t q.2)
end
/-- a call with arguments that are owned by the caller: the answer is plain -/
def mCallB (F : List D → Res D) (fs : List (Sls → Res D)) : Sls → Res D := fun ρ => mArgs fs ρ >>= F >>= fun d => if d.plain then ok d else bad
theorem ef_callB (G : FnOk X.prog X.w X.K X.mg X.base CX n fa fd ps (spF X.K F)) (hr : Room n X.A) (hm : X.mg x = some (.ref fa)) (hk : PySem.W.keepIn X.K (.ref fa) = true) (hb : Binds X.K fd ps []) (hx : ∀ σ, PassesAt CX X σ (E σ))
    (ha : EC X E (e :: es) (mArgs fs)) (hg : Gl X x := by rfl) (hdb : (x == ("__debug__" : Str)) = false := by decide) (he : starEach (e :: es) X.env = (false, eval e X.env) :: starEach es X.env := by rfl) (hpl : (backTo pos (starEach es X.env)).any (·.1) = false := by rfl) :
    EF X E (.Call (.Name x p) (e :: es) [] pos) (mCallB F fs) :=
  pe_imp (pe_callS G hr hg hm hk hb hx ha hdb he hpl) fun σ H Q ⟨ρ, O, FF, s, p⟩ => ⟨ρ, O, FF, s, by
    have p' : Po X.K E σ H (mArgs fs ρ >>= fun ds => F ds >>= fun d => if d.plain then ok d else bad) fun d => ∀ v H', Same H H' → Rep X.K H' O v d → Q v H' := by
      have p0 : Po X.K E σ H ((mArgs fs ρ >>= F) >>= fun d => if d.plain then ok d else bad) fun d => ∀ v H', Same H H' → Rep X.K H' O v d → Q v H' := p
      simpa only [res_assoc] using p0
    refine p'.bind.imp fun ds p1 vs H1 e1 r1 => ⟨ds, fun _ => False, r1.weak, fun _ z => z.elim, ?_⟩
    cases q : F ds with
    | ok d =>
      rw [q] at p1
      have p2 : Po X.K E σ H (if d.plain then ok d else bad) fun d => ∀ v H', Same H H' → Rep X.K H' O v d → Q v H' := p1
      cases z : d.plain with
      | true =>
        rw [z] at p2
        exact fun v H2 e2 r2 => p2 v H2 (e1.trans e2) (r2.plain z)
      | false => rw [z] at p2; exact p2.elim
    | exc c => rw [q] at p1; exact fun H2 e2 => p1 H2 (e1.trans e2)
    | bad => rw [q] at p1; exact p1⟩

/-! ### calls of built-ins -/
abbrev Cl1 (K : PySem.W.Frag) (r : List V → Hp → VK → Prop) (h : List D → Option D) : Prop := ∀ H O vs ds Q, Dom H O → RepBs K H O vs ds → VP K H O Q (h ds) → r vs H Q
abbrev Cl1N (K : PySem.W.Frag) (r : List V → Hp → VK → Prop) (h : List D → Option D) : Prop := ∀ H O vs ds Q, Dom H O → RepBs K H O vs ds → VN K H O Q (h ds) → r vs H Q
def mBI (h : List D → Option D) (fs : List (Sls → Res D)) : Sls → Res D := fun ρ => mArgs fs ρ >>= fun ds => ofO (h ds)
variable {rc : List V → Hp → VK → Prop} {hc : List D → Option D} {id T : String}
theorem ef_bi (hr : CallR X (.builtin id) rc) (hh : Cl1 X.K rc hc) (hm : X.mg x = none) (ha : EC X E (e :: es) (mArgs fs)) (hv : bootBuiltins x = some (.builtin id) := by decide +kernel) (hg : Gl X x := by rfl) (hn : x ≠ "__name__" := by decide) (hdb : (x == ("__debug__" : Str)) = false := by decide)
    (he : starEach (e :: es) X.env = (false, eval e X.env) :: starEach es X.env := by rfl) (hpl : (backTo pos (starEach es X.env)).any (·.1) = false := by rfl) : EF X E (.Call (.Name x p) (e :: es) [] pos) (mBI hc fs) :=
  pe_imp (pe_callB hr hg hm hv ha hn hdb he hpl) fun σ H Q ⟨ρ, O, FF, s, p⟩ => ⟨ρ, O, FF, s, p.bind.imp fun ds p1 vs H1 e1 r1 => hh H1 O vs ds Q (s.same e1).dom r1 (p1.vp e1)⟩
theorem ef_bt (hr : CallR X (.type T) rc) (hh : Cl1 X.K rc hc) (hm : X.mg x = none) (ha : EC X E (e :: es) (mArgs fs)) (hv : bootBuiltins x = some (.type T) := by decide +kernel) (hg : Gl X x := by rfl) (hn : x ≠ "__name__" := by decide) (hdb : (x == ("__debug__" : Str)) = false := by decide)
    (he : starEach (e :: es) X.env = (false, eval e X.env) :: starEach es X.env := by rfl) (hpl : (backTo pos (starEach es X.env)).any (·.1) = false := by rfl) : EF X E (.Call (.Name x p) (e :: es) [] pos) (mBI hc fs) :=
  pe_imp (pe_callTy hr hg hm hv ha hn hdb he hpl) fun σ H Q ⟨ρ, O, FF, s, p⟩ => ⟨ρ, O, FF, s, p.bind.imp fun ds p1 vs H1 e1 r1 => hh H1 O vs ds Q (s.same e1).dom r1 (p1.vp e1)⟩
theorem en_bi (hr : CallR X (.builtin id) rc) (hh : Cl1N X.K rc hc) (hm : X.mg x = none) (ha : EC X E (e :: es) (mArgs fs)) (hv : bootBuiltins x = some (.builtin id) := by decide +kernel) (hg : Gl X x := by rfl) (hn : x ≠ "__name__" := by decide) (hdb : (x == ("__debug__" : Str)) = false := by decide)
    (he : starEach (e :: es) X.env = (false, eval e X.env) :: starEach es X.env := by rfl) (hpl : (backTo pos (starEach es X.env)).any (·.1) = false := by rfl) : EN X E (.Call (.Name x p) (e :: es) [] pos) (mBI hc fs) :=
  pe_imp (pe_callB hr hg hm hv ha hn hdb he hpl) fun σ H Q ⟨ρ, O, FF, s, p⟩ => ⟨ρ, O, FF, s, p.bind.imp fun ds p1 vs H1 e1 r1 => hh H1 O vs ds Q (s.same e1).dom r1 (p1.vn e1)⟩
theorem en_bt (hr : CallR X (.type T) rc) (hh : Cl1N X.K rc hc) (hm : X.mg x = none) (ha : EC X E (e :: es) (mArgs fs)) (hv : bootBuiltins x = some (.type T) := by decide +kernel) (hg : Gl X x := by rfl) (hn : x ≠ "__name__" := by decide) (hdb : (x == ("__debug__" : Str)) = false := by decide)
    (he : starEach (e :: es) X.env = (false, eval e X.env) :: starEach es X.env := by rfl) (hpl : (backTo pos (starEach es X.env)).any (·.1) = false := by rfl) : EN X E (.Call (.Name x p) (e :: es) [] pos) (mBI hc fs) :=
  pe_imp (pe_callTy hr hg hm hv ha hn hdb he hpl) fun σ H Q ⟨ρ, O, FF, s, p⟩ => ⟨ρ, O, FF, s, p.bind.imp fun ds p1 vs H1 e1 r1 => hh H1 O vs ds Q (s.same e1).dom r1 (p1.vn e1)⟩

/-! ### o[i], o[i:j], o.f, text methods -/
theorem ef_ix (hr : IxR X r) (hh : Op2 X.K r h) (ha : EB X E a f) (hb : EB X E b g) (hs : PlainIx b := by exact fun _ _ => rfl) : EF X E (.Subscript a b pos) (mOp2 h f g) :=
  pe_imp (pe_ix hr ha hb hs) fun σ H Q hq => seq2 (P := fun H O d Q => ∀ v H', Same H H' → Rep X.K H' O v d → Q v H') hq fun O H1 x y dx dy e1 d1 rx ry p => hh H1 O x y dx dy Q d1 rx ry (p.vp e1)
/-- parts of a slice -/
def tEO (K : PySem.W.Frag) (E : EX) (f : Sls → Res (Option Int)) : TO := fun σ H Q => ∃ ρ O F, Sta K H O σ ρ F ∧ Po K E σ H (f ρ) fun d => ∀ H', Same H H' → Q d H'
abbrev EO (X : Cx) (E : EX) (e : Option Expr) (f : Sls → Res (Option Int)) : Prop := PO X e (tEO X.K E f)
theorem po_imp {e : Option Expr} {t t' : TO} (h : PO X e t) (i : ∀ σ H Q, t' σ H Q → t σ H Q) : PO X e t' := ⟨fun pins s σ H Q I q => h.run pins s σ H Q I (i σ H Q q)⟩
def mNoPart : Sls → Res (Option Int) := fun _ => ok none
def asI : D → Option Int
  | .int i => some i
  | _ => none
def mPart (f : Sls → Res D) : Sls → Res (Option Int) := fun ρ => f ρ >>= fun x => ofO (asI x) >>= fun i => ok (some i)
theorem eo_none : EO X E none mNoPart := po_imp po_none fun σ H Q ⟨ρ, O, F, s, p⟩ => p H (Same.refl H)
theorem eo_some (he : EF X E e f) : EO X E (some e) (mPart f) := po_imp (po_some he) fun σ H Q ⟨ρ, O, F, s, p⟩ => ⟨ρ, O, F, s, p.bind.imp fun d p1 v H1 e1 r1 => by
  cases d with
  | int i => cases r1; exact ⟨i, rfl, p1 H1 e1⟩
  | _ => exact p1.elim⟩
abbrev Sl3 (K : PySem.W.Frag) (r : V → Option Int → Option Int → Hp → VK → Prop) (h : D → Option Int → Option Int → Option D) : Prop := ∀ H O x dx lo hi Q, Dom H O → RepB K H O x dx → VP K H O Q (h dx lo hi) → r x lo hi H Q
abbrev Sl3N (K : PySem.W.Frag) (r : V → Option Int → Option Int → Hp → VK → Prop) (h : D → Option Int → Option Int → Option D) : Prop := ∀ H O x dx lo hi Q, Dom H O → RepB K H O x dx → VN K H O Q (h dx lo hi) → r x lo hi H Q
def mSl (h : D → Option Int → Option Int → Option D) (f : Sls → Res D) (l u : Sls → Res (Option Int)) : Sls → Res D := fun ρ => f ρ >>= fun x => l ρ >>= fun lo => u ρ >>= fun hi => ofO (h x lo hi)
variable {rs : V → Option Int → Option Int → Hp → VK → Prop} {h3 : D → Option Int → Option Int → Option D} {lo hi : Option Expr} {l u : Sls → Res (Option Int)} {p2 : Pos}
theorem ef_sl (hr : SlR X rs) (hh : Sl3 X.K rs h3) (ha : EB X E a f) (hl : EO X E lo l) (hu : EO X E hi u) : EF X E (.Subscript a (.Slice lo hi none p2) pos) (mSl h3 f l u) :=
  pe_imp (pe_slice hr ha hl hu) fun σ H Q ⟨ρ, O, F, s, p⟩ => ⟨ρ, O, F, s, p.bind.imp fun dx p1 x H1 e1 r1 => ⟨ρ, O, F, s.same e1, (p1.bind.imp fun lo p2 H2 e2 => ⟨ρ, O, F, s.same (e1.trans e2), (p2.bind.imp fun hi p3 H3 e3 =>
    hh H3 O x dx lo hi Q (s.same ((e1.trans e2).trans e3)).dom ((r1.same e2).same e3) (p3.vp ((e1.trans e2).trans e3))).later (e1.trans e2)⟩).later e1⟩⟩
theorem en_sl (hr : SlR X rs) (hh : Sl3N X.K rs h3) (ha : EB X E a f) (hl : EO X E lo l) (hu : EO X E hi u) : EN X E (.Subscript a (.Slice lo hi none p2) pos) (mSl h3 f l u) :=
  pe_imp (pe_slice hr ha hl hu) fun σ H Q ⟨ρ, O, F, s, p⟩ => ⟨ρ, O, F, s, p.bind.imp fun dx p1 x H1 e1 r1 => ⟨ρ, O, F, s.same e1, (p1.bind.imp fun lo p2 H2 e2 => ⟨ρ, O, F, s.same (e1.trans e2), (p2.bind.imp fun hi p3 H3 e3 =>
    hh H3 O x dx lo hi Q (s.same ((e1.trans e2).trans e3)).dom ((r1.same e2).same e3) (p3.vn ((e1.trans e2).trans e3))).later (e1.trans e2)⟩).later e1⟩⟩
def fld (fn : Str) : D → Option D
  | .obj _ gs => gs.lookup fn
  | _ => none
theorem RepFs.look {K : PySem.W.Frag} {H : Hp} {O : Addr → Prop} {fn : Str} : ∀ {fs gs} {d : D}, RepFs K H O fs gs → gs.lookup fn = some d → ∃ v, fs.lookup fn = some v ∧ Rep K H O v d
  | _, _, _, .nil, e => by simp at e
  | _, _, _, .cons (x := y) r t, e => by
    rw [List.lookup_cons] at e ⊢
    split at e
    · simp at e
      subst e
      exact ⟨_, rfl, r⟩
    · exact t.look e
/-- what the written part says of a class's fields -/
def FldOk (K : PySem.W.Frag) (fn : Str) (c : Str) : Prop := Cls K (He.ga K c) ∧ NoAttr K (He.ga K c) fn
def mFld (cs : List Str) (fn : Str) (f : Sls → Res D) : Sls → Res D := fun ρ => f ρ >>= fun x => match x with
  | .obj c gs => if c ∈ cs then ofO (gs.lookup fn) else bad
  | _ => bad
theorem ef_fld {cs : List Str} {fn : Str} (hk : ∀ c ∈ cs, FldOk X.K fn c) (ha : EB X E e f) (hb : attributeBase e fn X.env (eval e X.env) = eval e X.env := by rfl) : EF X E (.Attribute e fn pos) (mFld cs fn f) :=
  pe_imp (pe_fld ha hb) fun σ H Q ⟨ρ, O, F, s, p⟩ => ⟨ρ, O, F, s, p.bind.imp fun d p1 v H1 e1 r1 => by
    cases d with
    | obj c gs =>
      by_cases hc : c ∈ cs
      · have p1' : Po X.K E σ H (ofO (gs.lookup fn)) fun d => ∀ v H', Same H H' → Rep X.K H' O v d → Q v H' := by
          simp only [hc, if_true] at p1
          exact p1
        cases q : gs.lookup fn with
        | none => rw [q] at p1'; exact p1'.elim
        | some d' =>
          rw [q] at p1'
          obtain ⟨a, dx, fs, ev, h1, rf⟩ := r1.obj
          obtain ⟨v', e2, r2⟩ := rf.look q
          exact ⟨a, _, dx, fs, v', ev, h1, (hk c hc).1, (hk c hc).2, e2, p1' v' H1 e1 r2⟩
      · simp only [hc, if_false] at p1
        exact p1.elim
    | _ => exact p1.elim⟩
/-! ### methods of texts -/
theorem pe_m1' {id : String} {name : Str} {apos pos : Pos} {o : Expr} {to te : TE} {r : V → List V → Hp → VK → Prop} (slot : Slot "str" name id) (ty : typeOf (.builtin id) = pure (.type "method_descriptor")) (rule : MtR X id r) (ho : PE X o to) (he : PE X e te)
    (hs : starEach [e] X.env = [(false, eval e X.env)] := by rfl) (hbase : attributeBase o name X.env (eval o X.env) = eval o X.env := by rfl) (hline : (apos.endLine == pos.line) = true := by rfl) :
    PE X (.Call (.Attribute o name apos) [e] [] pos) (tM1 r to te) := pe_m1 slot ty rule ho he hs hbase hline
abbrev Mt1 (K : PySem.W.Frag) (r : V → List V → Hp → VK → Prop) (h : D → D → Option D) : Prop := ∀ H O x y dx dy Q, Dom H O → RepB K H O x dx → RepB K H O y dy → VP K H O Q (h dx dy) → r x [y] H Q
def isS : D → Bool
  | .str _ => true
  | _ => false
def mM1 (h : D → D → Option D) (f g : Sls → Res D) : Sls → Res D := fun ρ => f ρ >>= fun x => (if isS x then ok x else bad) >>= fun _ => g ρ >>= fun y => ofO (h x y)
theorem ef_m1 {id : String} {name : Str} {apos pos : Pos} {o : Expr} {r : V → List V → Hp → VK → Prop} (slot : Slot "str" name id) (ty : typeOf (.builtin id) = pure (.type "method_descriptor")) (rule : MtR X id r) (hh : Mt1 X.K r h) (ho : EB X E o f) (he : EB X E e g)
    (hs : starEach [e] X.env = [(false, eval e X.env)] := by rfl) (hbase : attributeBase o name X.env (eval o X.env) = eval o X.env := by rfl) (hline : (apos.endLine == pos.line) = true := by rfl) :
    EF X E (.Call (.Attribute o name apos) [e] [] pos) (mM1 h f g) :=
  pe_imp (pe_m1 slot ty rule ho he hs hbase hline) fun σ H Q ⟨ρ, O, F, s, p⟩ => ⟨ρ, O, F, s, p.bind.imp fun dx p1 x H1 e1 r1 => by
    cases dx with
    | str z =>
      have ex := r1.str
      subst ex
      refine ⟨⟨z, rfl⟩, ρ, O, F, s.same e1, ((show Po X.K E σ H (g ρ >>= fun y => ofO (h (.str z) y)) _ from p1).bind.imp fun dy p2 y H2 e2 r2 => ?_).later e1⟩
      exact hh H2 O _ y _ dy Q (s.same (e1.trans e2)).dom (r1.same e2) r2 (p2.vp (e1.trans e2))
    | _ => exact p1.elim⟩
end
end PP

namespace PP
open PySem PySem.Spec PyProof.Rows L2
open Res (ok exc bad)

/-! ### comprehensions -/
/-- one turn: a kept item, or none -/
def compL (step : D → Res (Option D)) : List D → Res (List D)
  | [] => ok []
  | x :: xs => (step x).quiet >>= fun r => compL step xs >>= fun ys => ok (match r with | some y => y :: ys | none => ys)
/-- what is walked -/
def wipeS (ρ : Sls) : List Nat → Sls
  | [] => ρ
  | v :: vs => (wipeS ρ vs).set v .no
theorem Sta.wipe {K : PySem.W.Frag} {H : Hp} {O : Addr → Prop} {σ : L2.St} {ρ : Sls} {F : List Addr} (s : Sta K H O σ ρ F) : ∀ vs : List Nat, ∃ F', Sta K H O (L2.wipe σ vs) (wipeS ρ vs) F'
  | [] => ⟨F, s⟩
  | v :: vs => by
    obtain ⟨F', s'⟩ := Sta.wipe s vs
    obtain ⟨F2, h1, _⟩ := s'.st.setN v none
    exact ⟨F2, h1, s'.dom⟩
/-- targets: what a value, stored, makes of the slots (all pure) -/
abbrev TgF := D → Sls → Res Sls
def tgName (i : Nat) : TgF := fun d ρ => ok (ρ.set i (.fz d))
def tgsNil : List D → Sls → Res Sls
  | [], ρ => ok ρ
  | _, _ => bad
def tgsCons (t : TgF) (u : List D → Sls → Res Sls) : List D → Sls → Res Sls
  | d :: ds, ρ => t d ρ >>= fun ρ' => u ds ρ'
  | [], _ => bad
def tgTup (n : Nat) (t : List D → Sls → Res Sls) : TgF
  | .tup ds, ρ => if ds.length = n then t ds ρ else bad
  | _, _ => bad
/-- the stored state is to reach -/
def Go (K : PySem.W.Frag) (H : Hp) (O : Addr → Prop) (F : List Addr) (Q : L2.St → Hp → Prop) : Res Sls → Prop
  | .ok ρ' => ∀ σ' F', Sta K H O σ' ρ' F' → (∀ a ∈ F', a ∈ F) → Q σ' H
  | _ => False
theorem Go.bind {K : PySem.W.Frag} {H : Hp} {O : Addr → Prop} {F : List Addr} {Q : L2.St → Hp → Prop} {r : Res Sls} {k : Sls → Res Sls} (h : Go K H O F Q (r >>= k)) : ∃ ρ', r = ok ρ' ∧ ∀ F', (∀ a ∈ F', a ∈ F) → Go K H O F' Q (k ρ') := by
  cases r with
  | ok ρ' =>
    refine ⟨ρ', rfl, fun F' sub => ?_⟩
    have h' : Go K H O F Q (k ρ') := h
    cases q : k ρ' with
    | ok ρ2 => rw [q] at h'; exact fun σ2 F2 s2 sub2 => h' σ2 F2 s2 fun a ha => sub a (sub2 a ha)
    | exc c => rw [q] at h'; exact h'.elim
    | bad => rw [q] at h'; exact h'.elim
  | exc c => exact h.elim
  | bad => exact h.elim
/-- a target's rule; it stores in the slots vs alone -/
structure TG (K : PySem.W.Frag) (g : L2.TG) (t : TgF) (vs : List Nat) : Prop where
  run : ∀ H O v d σ ρ F (Q : L2.St → Hp → Prop), Sta K H O σ ρ F → Rep K H O v d → Go K H O F Q (t d ρ) → g v σ H Q
  own : ∀ v σ H Q, g v σ H Q → g v σ H fun σ2 H2 => (∀ j, j ∉ vs → σ2[j]? = σ[j]?) ∧ σ2.length = σ.length ∧ Q σ2 H2
  mono : ∀ v σ H (Q Q' : L2.St → Hp → Prop), (∀ σ H, Q σ H → Q' σ H) → g v σ H Q → g v σ H Q'
structure TGs (K : PySem.W.Frag) (g : L2.TGs) (t : List D → Sls → Res Sls) (vs : List Nat) : Prop where
  run : ∀ H O us ds σ ρ F (Q : L2.St → Hp → Prop), Sta K H O σ ρ F → Reps K H O us ds → Go K H O F Q (t ds ρ) → g us σ H Q
  own : ∀ us σ H Q, g us σ H Q → g us σ H fun σ2 H2 => (∀ j, j ∉ vs → σ2[j]? = σ[j]?) ∧ σ2.length = σ.length ∧ Q σ2 H2
  mono : ∀ v σ H (Q Q' : L2.St → Hp → Prop), (∀ σ H, Q σ H → Q' σ H) → g v σ H Q → g v σ H Q'
theorem tg_name {K : PySem.W.Frag} (i : Nat) {vs : List Nat} (hi : i ∈ vs := by decide) : TG K (gName i) (tgName i) vs := by
  refine ⟨fun H O v d σ ρ F Q s r h => ?_, fun v σ H Q h => ⟨fun j hj => ?_, by simp, h⟩, fun v σ H Q Q' m h => m _ _ h⟩
  · obtain ⟨F', h1, h2⟩ := RSt.setF r i s.st
    exact h _ F' ⟨h1, s.dom⟩ h2
  · exact List.getElem?_set_ne (fun e => hj (by rw [← e]; exact hi))
theorem tgs_nil {K : PySem.W.Frag} {vs : List Nat} : TGs K gNil tgsNil vs := by
  refine ⟨fun H O us ds σ ρ F Q s r h => ?_, fun us σ H Q h => ⟨h.1, fun j _ => rfl, rfl, h.2⟩, fun us σ H Q Q' m h => ⟨h.1, m _ _ h.2⟩⟩
  cases r with
  | nil => exact ⟨rfl, h σ F s fun _ q => q⟩
  | cons _ _ => exact h.elim
theorem tgs_cons {K : PySem.W.Frag} {g : L2.TG} {t : TgF} {gs : L2.TGs} {ts : List D → Sls → Res Sls} {vs : List Nat} (h1 : TG K g t vs) (h2 : TGs K gs ts vs) : TGs K (gCons g gs) (tgsCons t ts) vs := by
  refine ⟨fun H O us ds σ ρ F Q s r h => ?_, fun us σ H Q h => ?_, fun us σ H Q Q' m h => ?_⟩
  · cases r with
    | nil => exact h.elim
    | @cons v d us ds rv rs =>
      obtain ⟨ρ', e, k⟩ := Go.bind (show Go K H O F Q (t d ρ >>= fun ρ' => ts ds ρ') from h)
      refine ⟨v, us, rfl, h1.run H O v d σ ρ F _ s rv ?_⟩
      rw [e]
      exact fun σ' F' s' sub => h2.run H O us ds σ' ρ' F' Q s' rs (k F' sub)
  · obtain ⟨v, r, e, h⟩ := h
    refine ⟨v, r, e, h1.mono _ _ _ _ _ (fun σ1 H1 ⟨a1, l1, q1⟩ => ?_) (h1.own v σ H _ h)⟩
    exact h2.mono _ _ _ _ _ (fun σ2 H2 ⟨a2, l2, q2⟩ => ⟨fun j hj => (a2 j hj).trans (a1 j hj), l2.trans l1, q2⟩) (h2.own r σ1 H1 Q q1)
  · obtain ⟨v, r, e, h⟩ := h
    exact ⟨v, r, e, h1.mono _ _ _ _ _ (fun σ1 H1 q1 => h2.mono _ _ _ _ _ m q1) h⟩
theorem tg_tup {K : PySem.W.Frag} {n : Nat} {gs : L2.TGs} {ts : List D → Sls → Res Sls} {vs : List Nat} (h1 : TGs K gs ts vs) : TG K (gTup K n gs) (tgTup n ts) vs := by
  refine ⟨fun H O v d σ ρ F Q s r h => ?_, fun v σ H Q h => ?_, fun v σ H Q Q' m h => ?_⟩
  · cases r with
    | tup hs z rs =>
      rename_i ds
      unfold tgTup at h
      by_cases e : ds.length = n
      · simp only [e, if_true] at h
        exact ⟨_, _, rfl, hs, by rw [rs.length]; exact e, h1.run H O _ _ σ ρ F Q s rs h⟩
      · simp only [e, if_false] at h
        exact h.elim
    | _ => exact h.elim
  · obtain ⟨a, xs, e1, e2, e3, h⟩ := h
    exact ⟨a, xs, e1, e2, e3, h1.own _ _ _ _ h⟩
  · obtain ⟨a, xs, e1, e2, e3, h⟩ := h
    exact ⟨a, xs, e1, e2, e3, h1.mono _ _ _ _ _ m h⟩
theorem wipe_get {σ : L2.St} {j : Nat} : ∀ {vs : List Nat}, (L2.wipe σ vs)[j]? = if j ∈ vs then (σ[j]?).map (fun _ => none) else σ[j]?
  | [] => by simp [L2.wipe]
  | v :: vs => by
    unfold L2.wipe
    by_cases e : v = j
    · subst e
      have hl := L2.wipe_length σ vs
      by_cases hj : v < (L2.wipe σ vs).length
      · rw [List.getElem?_set_self hj]
        rw [hl] at hj
        simp [hj]
      · rw [List.getElem?_eq_none (by simpa using hj)]
        rw [hl] at hj
        simp [List.getElem?_eq_none (Nat.le_of_not_lt hj)]
    · rw [List.getElem?_set_ne e, wipe_get (vs := vs)]
      have e' : j ≠ v := Ne.symm e
      simp [e']
theorem wipe_of {σ σ2 : L2.St} {vs : List Nat} (h : ∀ j, j ∉ vs → σ2[j]? = (L2.wipe σ vs)[j]?) (l : σ2.length = (L2.wipe σ vs).length) : L2.wipe σ2 vs = L2.wipe σ vs := by
  apply List.ext_getElem?
  intro j
  rw [wipe_get, wipe_get]
  by_cases hj : j ∈ vs
  · simp only [hj, if_true]
    rw [L2.wipe_length] at l
    by_cases hl : j < σ.length
    · simp [hl, l]
    · simp [List.getElem?_eq_none (Nat.le_of_not_lt hl), List.getElem?_eq_none (show σ2.length ≤ j by omega)]
  · simp only [hj, if_false]
    rw [h j hj, wipe_get]
    simp [hj]

/-! ### what is walked -/
def Later (H : Hp) (O : Addr → Prop) (H' : Hp) (O' : Addr → Prop) : Prop := ∀ a o, H a = some o → ¬ O a → H' a = some o ∧ ¬ O' a
section
variable {K : PySem.W.Frag} {H H' : Hp} {O O' : Addr → Prop} {a : Addr}
theorem Later.rd {u : HO} (l : Later H O H' O') (h : Rd H a u) (n : ¬ O a) : Rd H' a u ∧ ¬ O' a := by
  rcases h with h | ⟨o, h⟩
  · exact ⟨.inl (l _ _ h n).1, (l _ _ h n).2⟩
  · exact ⟨.inr ⟨o, (l _ _ h n).1⟩, (l _ _ h n).2⟩
theorem Later.sqf {xs : List V} (l : Later H O H' O') (h : SqF K H O a xs) : SqF K H' O' a xs := by
  rcases h with ⟨h, n⟩ | h
  · exact .inl (l.rd h n)
  · exact .inr h
theorem Later.sqt {xs : List V} (d : Dom H O) (l : Later H O H' O') (h : SqT K H a xs) : SqT K H' a xs := by
  rcases h with h | h
  · exact .inl (l.rd h fun z => (d a z).2 xs h).1
  · exact .inr h
mutual
theorem Rep.later (d : Dom H O) (l : Later H O H' O') : ∀ {v x}, Rep K H O v x → Rep K H' O' v x
  | _, _, .non => .non
  | _, _, .bl b => .bl b
  | _, _, .int i => .int i
  | _, _, .str x => .str x
  | _, _, .ty n => .ty n
  | _, _, .tup h z r => .tup (l.sqt d h) z (Reps.later d l r)
  | _, _, .lst h n z r => .lst (l.rd h n).1 (l.rd h n).2 z (Reps.later d l r)
  | _, _, .kl h z r => .kl (l.sqf h) z (Reps.later d l r)
  | _, _, .obj h n r => .obj (l _ _ h n).1 (l _ _ h n).2 (RepFs.later d l r)
  | _, _, .dct h n z q r => .dct (l _ _ h n).1 (l _ _ h n).2 z q (RepKs.later d l r)
theorem Reps.later (d : Dom H O) (l : Later H O H' O') : ∀ {v x}, Reps K H O v x → Reps K H' O' v x
  | _, _, .nil => .nil
  | _, _, .cons r t => .cons (Rep.later d l r) (Reps.later d l t)
theorem RepFs.later (d : Dom H O) (l : Later H O H' O') : ∀ {v x}, RepFs K H O v x → RepFs K H' O' v x
  | _, _, .nil => .nil
  | _, _, .cons r t => .cons (Rep.later d l r) (RepFs.later d l t)
theorem RepKs.later (d : Dom H O) (l : Later H O H' O') : ∀ {v x}, RepKs K H O v x → RepKs K H' O' v x
  | _, _, .nil => .nil
  | _, _, .cons r k u s t => .cons (Rep.later d l r) k u (Rep.later d l s) (RepKs.later d l t)
end
theorem Tr.later {F F' : List Addr} {σ : L2.St} {ρ : Sls} (s : Sta K H O σ ρ F) (t : Tr H O F H' O' F') : Later H O H' O' := fun a o h n =>
  ⟨t.keep a o h fun z => n (s.st.owned a z).1, fun z => (t.back a z).elim n fun q => by rw [h] at q; cases q⟩
theorem Later.refl : Later H O H O := fun _ _ h n => ⟨h, n⟩
theorem Later.same (e : Same H H') : Later H O H' O := fun a o h n => ⟨e a o h, n⟩
theorem Later.trans {H2 : Hp} {O2 : Addr → Prop} (x : Later H O H' O') (y : Later H' O' H2 O2) : Later H O H2 O2 := fun a o h n => y a o (x a o h n).1 (x a o h n).2
end
/-- the iterator J gives the items, as long as what is not owned stands -/
def Wk (K : PySem.W.Frag) (J : It) (items : List D) (H : Hp) (O : Addr → Prop) : Prop := ∀ H2 O2, Later H O H2 O2 → ∀ i,
  (∀ d, items[i]? = some d → J.go i H2 ∧ ∀ x H3, J.yld i H2 x H3 → Same H2 H3 ∧ Rep K H3 O2 x d) ∧ (items.length ≤ i → J.stop i H2)
def tEI (K : PySem.W.Frag) (E : EX) (f : Sls → Res (List D)) : TI := fun σ H R => ∃ ρ O F, Sta K H O σ ρ F ∧ Po K E σ H (f ρ) fun ds => ∀ J H', Same H H' → ds.length ≤ sizeLine → Wk K J ds H' O → R J H'
abbrev EI (X : Cx) (E : EX) (tg iter : Expr) (f : Sls → Res (List D)) : Prop := PI X tg iter (tEI X.K E f)
theorem big_line : 4000000 ≤ sizeLine := by rw [sizeLine_eq]; decide
section
variable {K : PySem.W.Frag} {H : Hp} {O : Addr → Prop} {a : Addr} {vs : List V} {ds : List D}
theorem wk_list (d : Dom H O) (h : SqF K H O a vs) (r : Reps K H O vs ds) : Wk K (Itl K a) ds H O := by
  intro H2 O2 l i
  have h2 := (l.sqf h).sql
  have r2 := r.later d l
  refine ⟨fun x e => ?_, fun hi => ⟨vs, h2, by rw [r.length]; exact hi⟩⟩
  obtain ⟨v, e1, rv⟩ := r2.get e
  refine ⟨⟨vs, v, h2, e1⟩, fun y H3 hy => ?_⟩
  obtain ⟨e3, hy⟩ := hy
  subst e3
  have e4 := hy vs h2
  rw [e1] at e4
  cases e4
  exact ⟨Same.refl _, rv⟩
theorem wk_tup (d : Dom H O) (h : SqT K H a vs) (r : Reps K H O vs ds) : Wk K (Itt K a) ds H O := by
  intro H2 O2 l i
  have h2 := l.sqt d h
  have r2 := r.later d l
  refine ⟨fun x e => ?_, fun hi => ⟨vs, h2, by rw [r.length]; exact hi⟩⟩
  obtain ⟨v, e1, rv⟩ := r2.get e
  refine ⟨⟨vs, v, h2, e1⟩, fun y H3 hy => ?_⟩
  obtain ⟨e3, hy⟩ := hy
  subst e3
  have e4 := hy vs h2
  rw [e1] at e4
  cases e4
  exact ⟨Same.refl _, rv⟩
/-- the signs of a text -/
def signs (z : Str) : List D := z.cps.toList.map fun c => .str ⟨#[c]⟩
theorem wk_str (z : Str) : Wk K (Its z) (signs z) H O := by
  intro H2 O2 l i
  refine ⟨fun x e => ?_, fun hi => by show z.cps.size ≤ i; simpa [signs] using hi⟩
  unfold signs at e
  rw [List.getElem?_map] at e
  cases q : z.cps.toList[i]? with
  | none => rw [q] at e; cases e
  | some c =>
    rw [q] at e
    cases e
    have q' : z.cps[i]? = some c := by simpa using q
    refine ⟨?_, fun y H3 hy => ?_⟩
    · show i < z.cps.size
      exact (Array.getElem?_eq_some_iff.mp q').1
    · obtain ⟨e3, c', e4, e5⟩ := hy
      subst e3 e5
      rw [q'] at e4
      cases e4
      exact ⟨Same.refl _, .str _⟩
def rangeD (lo : Int) (n : Nat) : List D := (List.range n).map fun i : Nat => .int (lo + (i : Int))
theorem wk_range (lo : Int) (n : Nat) : Wk K (Itr lo n) (rangeD lo n) H O := by
  intro H2 O2 l i
  refine ⟨fun x e => ?_, fun hi => by show n ≤ i; simpa [rangeD] using hi⟩
  unfold rangeD at e
  rw [List.getElem?_map] at e
  by_cases hi : i < n
  · rw [List.getElem?_range hi] at e
    cases e
    refine ⟨hi, fun y H3 hy => ?_⟩
    obtain ⟨e3, e4⟩ := hy
    subst e3 e4
    exact ⟨Same.refl _, .int _⟩
  · rw [List.getElem?_eq_none (by simpa using hi)] at e
    cases e
end
section
variable {X : Cx} {E : EX} {e tg : Expr} {f g : Sls → Res D}
theorem pi_imp {t t' : TI} (h : PI X tg e t) (i : ∀ σ H Q, t' σ H Q → t σ H Q) : PI X tg e t' := ⟨fun pins s σ H Q I q => h.run pins s σ H Q I (i σ H Q q)⟩
/-- a list, a tuple or a text -/
def iAny (K : PySem.W.Frag) (te : TE) : TI := fun σ H R => te σ H fun x H1 => (∃ a xs, x = .ref a ∧ SqL K H1 a xs ∧ R (Itl K a) H1) ∨ (∃ a xs, x = .ref a ∧ SqT K H1 a xs ∧ R (Itt K a) H1) ∨ (∃ z, x = .str z ∧ R (Its z) H1)
theorem pi_any {te : TE} (he : PE X e te) : PI X tg e (iAny X.K te) := by
  refine ⟨fun pins s σ H R I h => ?_⟩
  refine thn (he.run pins s σ H _ I h) fun v s1 ⟨x, H1, I1, r1, q1⟩ => ?_
  have one : ∀ {wi : TI}, (PI X tg e wi → False) → True := fun _ => trivial
  rcases q1 with ⟨a, xs, e1, hq, q⟩ | ⟨a, xs, e1, hq, q⟩ | ⟨z, e1, q⟩
  · subst e1
    cases r1
    obtain ⟨its, rv, p, hz⟩ := I1.list hq
    refine wpAny_pyIter_list p.isList ?_
    refine ⟨s1.heap.objs.size, [s1.heap.objs.size], _, _, H1, rfl, I1.kept (t' := s1.toks) fun b o e => Heap.get?_push_of_some _ e, turn_list a _, ⟨_, Heap.get?_push_size _ rfl, rfl, rfl⟩, fun b hb => ?_, q⟩
    have e : b = s1.heap.objs.size := by simpa using hb
    subst e
    exact I1.fpOk (Nat.le_refl _) (I1.hok.fresh (Nat.le_refl _))
  · subst e1
    cases r1
    obtain ⟨its, rv, p, hz⟩ := I1.tuple hq
    refine wpAny_pyIter_tuple (show s1.heap.IsTuple a its.toArray from p) ?_
    refine ⟨s1.heap.objs.size, [s1.heap.objs.size], _, _, H1, rfl, I1.kept (t' := s1.toks) fun b o e => Heap.get?_push_of_some _ e, turn_tuple a _, ⟨_, Heap.get?_push_size _ rfl, rfl, rfl⟩, fun b hb => ?_, q⟩
    have e : b = s1.heap.objs.size := by simpa using hb
    subst e
    exact I1.fpOk (Nat.le_refl _) (I1.hok.fresh (Nat.le_refl _))
  · subst e1
    obtain ⟨t, rfl⟩ := r1
    cases ha : z.cps.all (· < 128)
    · exact wpAny_pyIter_wide ha (pi_one (tk := s1.toks) I1 _ (turn_str _ z t "str_iterator" (.inr rfl)) ⟨_, Heap.get?_push_size _ rfl, rfl, rfl⟩ q)
    · exact wpAny_pyIter_ascii ha (pi_one (tk := s1.toks) I1 _ (turn_str _ z t "str_ascii_iterator" (.inl rfl)) ⟨_, Heap.get?_push_size _ rfl, rfl, rfl⟩ q)
def items : D → Option (List D)
  | .lst ds => some ds
  | .kl ds => some ds
  | .tup ds => some ds
  | .str z => if z.cps.size ≤ 1000000 then some (signs z) else none
  | _ => none
def mIt (f : Sls → Res D) : Sls → Res (List D) := fun ρ => f ρ >>= fun d => ofO (items d)
theorem ei_any (he : EF X E e f) : EI X E tg e (mIt f) := pi_imp (pi_any he) fun σ H R ⟨ρ, O, F, s, p⟩ => ⟨ρ, O, F, s, p.bind.imp fun d p1 v H1 e1 r1 => by
  have dm := (s.same e1).dom
  cases d with
  | lst ds =>
    cases r1 with
    | lst h n z r => exact .inl ⟨_, _, rfl, .inl h, p1 _ H1 e1 (by rw [← r.length]; exact z) (wk_list dm (.inl ⟨h, n⟩) r)⟩
  | kl ds =>
    cases r1 with
    | kl h z r => exact .inl ⟨_, _, rfl, h.sql, p1 _ H1 e1 (by rw [← r.length]; exact z) (wk_list dm h r)⟩
  | tup ds =>
    cases r1 with
    | tup h z r => exact .inr (.inl ⟨_, _, rfl, h, p1 _ H1 e1 (by rw [← r.length]; exact z) (wk_tup dm h r)⟩)
  | str x =>
    cases r1
    unfold items at p1
    by_cases hx : x.cps.size ≤ 1000000
    · simp only [hx, if_true] at p1
      exact .inr (.inr ⟨x, rfl, p1 _ H1 e1 (by simp [signs]; exact Nat.le_trans hx (Nat.le_trans (by decide) big_line)) (wk_str x)⟩)
    · simp only [hx, if_false] at p1
      exact p1.elim
  | _ => exact p1.elim⟩
def rng1 : List D → Option (List D)
  | [.int j] => if j ≤ 1000000 ∧ -1000000 ≤ j then some (rangeD 0 j.toNat) else none
  | _ => none
def rng2 : List D → Option (List D)
  | [.int i, .int j] => if (j ≤ 1000000 ∧ -1000000 ≤ j) ∧ (i ≤ 1000000 ∧ -1000000 ≤ i) then some (rangeD i (j - i).toNat) else none
  | _ => none
def mRng (h : List D → Option (List D)) (fs : List (Sls → Res D)) : Sls → Res (List D) := fun ρ => mArgs fs ρ >>= fun ds => ofO (h ds)
variable {a b : Expr} {fs : List (Sls → Res D)} {p pos : Pos}
theorem ei_range1 (hm : X.mg "range" = none) (ha : EA X E [a] (mArgs fs)) (hg : Gl X "range" := by rfl) (hs : starEach [a] X.env = [(false, eval a X.env)] := by rfl) : EI X E tg (.Call (.Name "range" p) [a] [] pos) (mRng rng1 fs) :=
  pi_imp (pi_range1 hg hm ha hs) fun σ H R ⟨ρ, O, F, s, p⟩ => ⟨ρ, O, F, s, p.bind.imp fun ds p1 vs H1 e1 r1 => by
    unfold rng1 at p1
    split at p1
    · rename_i j
      by_cases hj : j ≤ 1000000 ∧ -1000000 ≤ j
      · simp only [hj, and_self, if_true] at p1
        cases r1 with
        | cons r t =>
          cases r
          cases t
          exact ⟨j, rfl, by omega, by omega, p1 _ H1 e1 (by rw [show (rangeD 0 j.toNat).length = j.toNat from by simp [rangeD]]; exact Nat.le_trans (by omega : j.toNat ≤ 4000000) big_line) (wk_range 0 _)⟩
      · simp only [hj, if_false] at p1
        exact p1.elim
    · exact p1.elim⟩
theorem ei_range2 (hm : X.mg "range" = none) (ha : EA X E [a, b] (mArgs fs)) (hg : Gl X "range" := by rfl) (hs : starEach [a, b] X.env = [(false, eval a X.env), (false, eval b X.env)] := by rfl) (hs2 : starEach [b] X.env = [(false, eval b X.env)] := by rfl) :
    EI X E tg (.Call (.Name "range" p) [a, b] [] pos) (mRng rng2 fs) :=
  pi_imp (pi_range2 hg hm ha hs hs2) fun σ H R ⟨ρ, O, F, s, p⟩ => ⟨ρ, O, F, s, p.bind.imp fun ds p1 vs H1 e1 r1 => by
    unfold rng2 at p1
    split at p1
    · rename_i i j
      by_cases hj : (j ≤ 1000000 ∧ -1000000 ≤ j) ∧ (i ≤ 1000000 ∧ -1000000 ≤ i)
      · simp only [hj, and_self, if_true] at p1
        cases r1 with
        | cons r t =>
          cases r
          cases t with
          | cons r t =>
            cases r
            cases t
            exact ⟨i, j, rfl, by omega, p1 _ H1 e1 (by rw [show (rangeD i (j - i).toNat).length = (j - i).toNat from by simp [rangeD]]; exact Nat.le_trans (by omega : (j - i).toNat ≤ 4000000) big_line) (wk_range i _)⟩
      · simp only [hj, if_false] at p1
        exact p1.elim
    · exact p1.elim⟩
/-! ### comprehensions -/
abbrev E0' : EX := fun _ _ _ _ => False
/-- the tests of a clause -/
abbrev ETs (X : Cx) (E : EX) (es : List Expr) (f : Sls → Res Bool) : Prop := PTs X es (tET X.K E f)
def mYes : Sls → Res Bool := fun _ => ok true
theorem pts_imp {es : List Expr} {t t' : TT} (h : PTs X es t) (i : ∀ σ H Q, t' σ H Q → t σ H Q) : PTs X es t' := ⟨fun pins s σ H Q I q => h.run pins s σ H Q I (i σ H Q q)⟩
theorem ets_nil : ETs X E [] mYes := pts_imp pts_nil fun σ H Q ⟨ρ, O, F, s, p⟩ => p H (Same.refl H)
theorem ets_one {c : Expr} {t : Sls → Res Bool} (h : ET X E c t) : ETs X E [c] t := pts_one h
def lcStep (vs : List Nat) (t : TgF) (tt : Sls → Res Bool) (te : Sls → Res D) (ρ : Sls) (x : D) : Res (Option D) :=
  t x (wipeS ρ vs) >>= fun ρ' => tt ρ' >>= fun b => if b then te ρ' >>= fun y => ok (some y) else ok none
def mLc (it : Sls → Res (List D)) (vs : List Nat) (t : TgF) (tt : Sls → Res Bool) (te : Sls → Res D) : Sls → Res D := fun ρ =>
  it ρ >>= fun xs => compL (lcStep vs t tt te ρ) xs >>= fun ys => ok (.lst ys)
theorem Res.quiet_bind {α β : Type} {r : Res α} {k : α → Res β} {b : β} (h : (r.quiet >>= k) = ok b) : ∃ a, r = ok a ∧ k a = ok b := by
  cases r with
  | ok a => exact ⟨a, rfl, h⟩
  | exc c => cases h
  | bad => cases h
theorem Res.bind_ok {α β : Type} {r : Res α} {k : α → Res β} {b : β} (h : (r >>= k) = ok b) : ∃ a, r = ok a ∧ k a = ok b := by
  cases r with
  | ok a => exact ⟨a, rfl, h⟩
  | exc c => cases h
  | bad => cases h
theorem compL_cons {step : D → Res (Option D)} {x : D} {xs ys : List D} (h : compL step (x :: xs) = ok ys) : ∃ r zs, step x = ok r ∧ compL step xs = ok zs ∧ ys = (match r with | some y => y :: zs | none => zs) := by
  obtain ⟨r, h1, h2⟩ := Res.quiet_bind (show ((step x).quiet >>= fun r => compL step xs >>= fun ys => ok (match r with | some y => y :: ys | none => ys)) = ok ys from h)
  obtain ⟨zs, h3, h4⟩ := Res.bind_ok h2
  cases h4
  exact ⟨r, zs, h1, h3, rfl⟩
theorem compL_exc {step : D → Res (Option D)} {c : Str} : ∀ {xs : List D}, compL step xs ≠ exc c
  | [], h => by cases h
  | x :: xs, h => by
    have h' : ((step x).quiet >>= fun r => compL step xs >>= fun ys => ok (match r with | some y => y :: ys | none => ys)) = exc c := h
    cases q : step x with
    | ok r =>
      rw [q] at h'
      have h2 : (compL step xs >>= fun ys => ok (match r with | some y => y :: ys | none => ys)) = exc c := h'
      cases q2 : compL step xs with
      | ok ys => rw [q2] at h2; cases h2
      | exc c' => exact compL_exc q2
      | bad => rw [q2] at h2; cases h2
    | exc _ => rw [q] at h'; cases h'
    | bad => rw [q] at h'; cases h'
theorem lc_go {J : It} {items ys : List D} {g : L2.TG} {t : TgF} {tt : Sls → Res Bool} {te : Sls → Res D} {vs : List Nat} {σ : L2.St} {H1 : Hp} {O : Addr → Prop} {ρ : Sls} {F : List Addr} {D0 : Addr} {Qd : Hp → Prop} (hD : H1 D0 = none)
    (s : Sta X.K H1 O σ ρ F) (hw : Wk X.K J items H1 O) (hz : items.length ≤ sizeLine) (hg : PP.TG X.K g t vs) (hy : compL (lcStep vs t tt te ρ) items = ok ys)
    (hd : ∀ H2, Same H1 H2 → RepN X.K H2 (Ad O D0) (.ref D0) (.lst ys) D0 → Qd H2) :
    ∃ W : Nat → Nat → Hp → Prop, (∃ m, W 0 m (upd H1 D0 (.lst []))) ∧ ∀ i m H, W i m H →
      (J.stop i H ∧ Qd H) ∨ (J.go i H ∧ ∃ Nx : Hp → Prop, (∀ H', Nx H' → ∃ m', m' < m ∧ W (i + 1) m' H') ∧ ∀ x H', J.yld i H x H' → g x (L2.wipe σ vs) H' fun σ2 H2 => L2.wipe σ2 vs = L2.wipe σ vs ∧ tET X.K E0' tt σ2 H2 fun b H3 =>
        if b = true then tEF X.K E0' te σ2 H3 fun y H4 => ∃ acc, H4 D0 = some (.lst acc) ∧ acc.length < sizeLine ∧ Nx (upd H4 D0 (.lst (acc ++ [y]))) else Nx H3) := by
  -- behind i items: acc holds what they gave; the rest gives the rest
  let W : Nat → Nat → Hp → Prop := fun i m H2 => m + i = items.length ∧ Same H1 H2 ∧ ∃ acc ds rest, H2 D0 = some (.lst acc) ∧ acc.length ≤ i ∧ Reps X.K H2 (Ad O D0) acc ds ∧ compL (lcStep vs t tt te ρ) (items.drop i) = ok rest ∧ ys = ds ++ rest
  have nOD : ¬ O D0 := fun h => (s.dom D0 h).1 hD
  have key : ∀ H2, Same H1 H2 → (∃ acc, H2 D0 = some (.lst acc)) → Later H1 O H2 (Ad O D0) ∧ Dom H2 (Ad O D0) := by
    intro H2 e2 ⟨acc, hacc⟩
    refine ⟨fun a o h n => ⟨e2 a o h, fun z => z.elim n fun z => by subst z; rw [hD] at h; cases h⟩, fun a h => ?_⟩
    rcases h with h | h
    · exact (s.dom.same e2) a h
    · subst h; exact ⟨by rw [hacc]; exact fun z => (nomatch z), noTup_lst hacc⟩
  refine ⟨W, ⟨items.length, by omega, same_new hD, [], [], ys, upd_same, Nat.le_refl _, .nil, by simpa using hy, rfl⟩, ?_⟩
  rintro i m H2 ⟨hm, e2, acc, ds, rest, hacc, hlen, hr, hrest, hys⟩
  obtain ⟨lt, dm⟩ := key H2 e2 ⟨acc, hacc⟩
  obtain ⟨w1, w2⟩ := hw H2 (Ad O D0) lt i
  by_cases hi : i < items.length
  · have hget : items[i]? = some items[i] := List.getElem?_eq_getElem hi
    obtain ⟨go, yl⟩ := w1 items[i] hget
    have hdrop : items.drop i = items[i] :: items.drop (i + 1) := List.drop_eq_getElem_cons hi
    rw [hdrop] at hrest
    obtain ⟨r, zs, hstep, hzs, hrest'⟩ := compL_cons hrest
    refine .inr ⟨go, W (i + 1) (m - 1), fun H' w => ⟨m - 1, by omega, w⟩, fun x H3 hyl => ?_⟩
    obtain ⟨e3, rx⟩ := yl x H3 hyl
    have e13 := e2.trans e3
    have hacc3 := e3 _ _ hacc
    obtain ⟨_, dm3⟩ := key H3 e13 ⟨acc, hacc3⟩
    -- the block's state
    have s3 : Sta X.K H3 (Ad O D0) σ ρ F := ⟨(s.st.more hD).same e13, dm3⟩
    obtain ⟨Fw, sw⟩ := s3.wipe vs
    unfold lcStep at hstep
    obtain ⟨ρ1, ht, hstep⟩ := Res.bind_ok hstep
    obtain ⟨b, htt, hstep⟩ := Res.bind_ok hstep
    refine hg.mono _ _ _ _ _ (fun σ4 H4 q => ⟨wipe_of q.1 q.2.1, q.2.2⟩) (hg.own _ _ _ _ ?_)
    refine hg.run H3 (Ad O D0) x items[i] _ _ Fw _ sw rx ?_
    rw [ht]
    intro σ4 F4 s4 _
    refine ⟨ρ1, Ad O D0, F4, s4, ?_⟩
    rw [htt]
    intro H5 e5
    have e15 := e13.trans e5
    have hacc5 := e5 _ _ hacc3
    cases b with
    | false =>
      refine iteF ⟨by omega, e15, acc, ds, zs, hacc5, by omega, ((hr.same e3).same e5), hzs, ?_⟩
      have : r = none := by simpa using hstep.symm
      subst this
      rw [hys, hrest']
    | true =>
      refine iteT ?_
      have hstep' : (te ρ1 >>= fun y => ok (some y)) = ok r := hstep
      obtain ⟨y, hte, hstep⟩ := Res.bind_ok hstep'
      cases hstep
      refine ⟨ρ1, Ad O D0, F4, s4.same e5, ?_⟩
      rw [hte]
      intro v H6 e6 rv
      have hacc6 := e6 _ _ hacc5
      refine ⟨acc, hacc6, by omega, by omega, ?_, acc ++ [v], ds ++ [y], zs, upd_same, by simp; omega, ?_, hzs, ?_⟩
      · intro a o h
        rw [upd_ne (fun z => by subst z; rw [hD] at h; cases h)]
        exact e6 _ _ (e15 _ _ h)
      · exact ((((hr.same e3).same e5).same e6).snoc rv).upd (.inr rfl) (noTup_lst hacc6)
      · rw [hys, hrest']
        simp
  · refine .inl ⟨w2 (by omega), hd H2 e2 ⟨rfl, .inr rfl, acc, hacc, by omega, ?_⟩⟩
    rw [List.drop_eq_nil_of_le (by omega)] at hrest
    cases hrest
    rw [hys]
    simpa using hr
theorem lc_reads {own : List (Str × Nat)} {it : Sls → Res (List D)} {g : L2.TG} {t : TgF} {tt : Sls → Res Bool} {te : Sls → Res D} {σ : L2.St} {H : Hp} {Q : VK} (hgt : PP.TG X.K g t (own.map (·.2))) (hq : tEN X.K E (mLc it (own.map (·.2)) t tt te) σ H Q) :
    tLc (tEI X.K E it) g (tET X.K E0' tt) (tEF X.K E0' te) (own.map (·.2)) σ H Q := by
  obtain ⟨ρ, O, F, s, p⟩ := hq
  refine ⟨ρ, O, F, s, ?_⟩
  refine p.bind.imp fun xs p1 => ?_
  have p2 : Po X.K E σ H (compL (lcStep (own.map (·.2)) t tt te ρ) xs >>= fun ys => ok (.lst ys)) fun d => ∀ v a H', Same H H' → H a = none → RepN X.K H' (Ad O a) v d a → Q v H' := p1
  cases q : compL (lcStep (own.map (·.2)) t tt te ρ) xs with
  | exc c => exact (compL_exc q).elim
  | bad => rw [q] at p2; exact p2.elim
  | ok ys =>
    rw [q] at p2
    exact fun J H1 e1 z w D0 hD => lc_go hD (s.same e1) w z hgt q fun H2 e2 r => p2 _ D0 H2 (e1.trans e2) (e1.free hD) r
theorem en_lc {elt iter : Expr} {ifs : List Expr} {scope : Scope} {own : List (Str × Nat)} {it : Sls → Res (List D)} {g : L2.TG} {t : TgF} {tt : Sls → Res Bool} {te : Sls → Res D} (hc : X.calm = true) (hN : X.N.Nodup) (hi : EI X E tg iter it) (ok' : BlkOk X.N X.env.scope scope own)
    (hgt : PP.TG X.K g t (own.map (·.2)))
    (hg : ∀ (s : Shared) (H : Hp) (C : Addr) (cl : List (Str × Addr)) (fp : List Addr), PG (X.blk s H scope (compEnvC scope cl C X.env) fp) tg g) (ht : ∀ (s : Shared) (H : Hp) (C : Addr) (cl : List (Str × Addr)) (fp : List Addr), ETs (X.blk s H scope (compEnvC scope cl C X.env) fp) E0' ifs tt)
    (he : ∀ (s : Shared) (H : Hp) (C : Addr) (cl : List (Str × Addr)) (fp : List Addr), EF (X.blk s H scope (compEnvC scope cl C X.env) fp) E0' elt te) (hs : ∀ x, foldedSetIterable iter X.env x = pure x := by intro _; rfl) :
    EN X E (.ListComp elt [⟨tg, iter, ifs, 0⟩] scope pos) (mLc it (own.map (·.2)) t tt te) :=
  pe_imp (pe_lc (tt := tET X.K E0' tt) (te := tEF X.K E0' te) hc hN hi ok' hg ht he hs) fun σ H Q hq => lc_reads hgt hq
end
end PP

namespace PP
open PySem PySem.Spec PyProof.Rows L2
open Res (ok exc bad)

/-! ### statements -/
def FP (K : PySem.W.Frag) (E : EX) (D' : Ends) (H : Hp) (O : Addr → Prop) (F : List Addr) : Fl → Prop
  | .nx ρ' => ∀ σ' H' O' F', Sta K H' O' σ' ρ' F' → Tr H O F H' O' F' → D'.nx σ' H'
  | .rt d => ∀ v H' O' F', Rep K H' O' v d → Tr H O F H' O' F' → D'.rt v H'
  | .bk ρ' => ∀ σ' H' O' F', Sta K H' O' σ' ρ' F' → Tr H O F H' O' F' → D'.bk σ' H'
  | .ct ρ' => ∀ σ' H' O' F', Sta K H' O' σ' ρ' F' → Tr H O F H' O' F' → D'.ct σ' H'
  | .exc c ρ' => ∀ σ' H' O' F', Sta K H' O' σ' ρ' F' → Tr H O F H' O' F' → E σ' (.ref (He.ga K c)) none H'
  | .bad => False
def tSS (K : PySem.W.Frag) (E : EX) (f : Sls → Fl) : TS := fun D σ H => ∃ ρ O F, Sta K H O σ ρ F ∧ FP K E D H O F (f ρ)
abbrev SS (X : Cx) (E : EX) (st : Stmt) (f : Sls → Fl) : Prop := PS X st (tSS X.K E f)
abbrev SSs (X : Cx) (E : EX) (st : List Stmt) (f : Sls → Fl) : Prop := PSs X st (tSS X.K E f)
section
variable {K : PySem.W.Frag} {E : EX} {D' : Ends} {H H1 : Hp} {O O1 : Addr → Prop} {F F1 : List Addr} {σ : L2.St} {ρ : Sls}
theorem FP.later {fl : Fl} (s : Sta K H O σ ρ F) (t : Tr H O F H1 O1 F1) (h : FP K E D' H O F fl) : FP K E D' H1 O1 F1 fl := by
  cases fl with
  | nx ρ' => exact fun σ' H' O' F' s' t' => h σ' H' O' F' s' (t.trans s t')
  | rt d => exact fun v H' O' F' r t' => h v H' O' F' r (t.trans s t')
  | bk ρ' => exact fun σ' H' O' F' s' t' => h σ' H' O' F' s' (t.trans s t')
  | ct ρ' => exact fun σ' H' O' F' s' t' => h σ' H' O' F' s' (t.trans s t')
  | exc c ρ' => exact fun σ' H' O' F' s' t' => h σ' H' O' F' s' (t.trans s t')
  | bad => exact h
/-- an expression's value, then a flow -/
def thenF {α : Type} (r : Res α) (ρ : Sls) (k : α → Fl) : Fl := match r with
  | .ok a => k a
  | .exc c => .exc c ρ
  | .bad => .bad
@[simp] theorem thenF_ok {α : Type} (a : α) (ρ : Sls) (k : α → Fl) : thenF (ok a) ρ k = k a := rfl
@[simp] theorem thenF_exc {α : Type} (c : Str) (ρ : Sls) (k : α → Fl) : thenF (exc c : Res α) ρ k = .exc c ρ := rfl
@[simp] theorem thenF_bad {α : Type} (ρ : Sls) (k : α → Fl) : thenF (bad : Res α) ρ k = .bad := rfl
theorem FP.po {α : Type} {r : Res α} {k : α → Fl} (s : Sta K H O σ ρ F) (h : FP K E D' H O F (thenF r ρ k)) : Po K E σ H r fun a => FP K E D' H O F (k a) := by
  cases r with
  | ok a => exact h
  | exc c => exact fun H' e => h σ H' O F (s.same e) (.same e)
  | bad => exact h
/-- after a new object at a is taken in -/
theorem Sta.add {H2 : Hp} {a : Addr} (s : Sta K H O σ ρ F) (e : Same H H2) (n : H a = none) (h1 : H2 a ≠ none) (h2 : NoTup H2 a) : Sta K H2 (Ad O a) σ ρ F :=
  ⟨(s.st.more n).same e, fun b hb => hb.elim (fun z => s.dom.same e b z) fun z => by subst z; exact ⟨h1, h2⟩⟩
theorem Tr.sub {F' : List Addr} (h : ∀ a ∈ F', a ∈ F) (e : Same H H1) : Tr H O F H1 O F' := ⟨fun a o q _ => e a o q, fun a q => .inl (h a q), fun _ q => .inl q, fun _ q => .inl q⟩
end
section
variable {X : Cx} {E : EX} {e : Expr} {f : Sls → Res D} {tf : Sls → Res Bool} {st : Stmt} {sts : List Stmt} {s1 s2 : Sls → Fl} {pos pos' : Pos}
def sNx : Sls → Fl := fun ρ => .nx ρ
def sSeq (s t : Sls → Fl) : Sls → Fl := fun ρ => match s ρ with
  | .nx ρ' => t ρ'
  | fl => fl
theorem ss_nil : SSs X E [] sNx := pss_imp pss_nil fun D σ H ⟨ρ, O, F, s, p⟩ => p σ H O F s .refl
theorem ss_pass : SS X E (.Pass pos) sNx := ps_imp ps_pass fun D σ H ⟨ρ, O, F, s, p⟩ => p σ H O F s .refl
theorem ss_cons (h1 : SS X E st s1) (h2 : SSs X E sts s2) : SSs X E (st :: sts) (sSeq s1 s2) :=
  pss_imp (pss_cons h1 h2) fun D σ H ⟨ρ, O, F, s, p⟩ => ⟨ρ, O, F, s, by
    unfold sSeq at p
    cases q : s1 ρ with
    | nx ρ' =>
      rw [q] at p
      exact fun σ' H' O' F' s' t => ⟨ρ', O', F', s', FP.later s t p⟩
    | rt d => rw [q] at p; exact p
    | bk ρ' => rw [q] at p; exact p
    | ct ρ' => rw [q] at p; exact p
    | exc c ρ' => rw [q] at p; exact p
    | bad => rw [q] at p; exact p⟩
theorem ss_one (h1 : SS X E st s1) : SSs X E [st] s1 := pss_one h1
/-- code that is never come to -/
theorem ss_never : SSs X E sts fun _ => .bad := ⟨fun _ _ _ _ _ _ ⟨_, _, _, _, p⟩ => p.elim⟩
def sBk : Sls → Fl := fun ρ => .bk ρ
def sCt : Sls → Fl := fun ρ => .ct ρ
theorem ss_break : SS X E (.Break pos) sBk := ps_imp ps_break fun D σ H ⟨ρ, O, F, s, p⟩ => p σ H O F s .refl
theorem ss_cont : SS X E (.Continue pos) sCt := ps_imp ps_continue fun D σ H ⟨ρ, O, F, s, p⟩ => p σ H O F s .refl
/-! ### stores -/
def sSet (i : Nat) (f : Sls → Res D) : Sls → Fl := fun ρ => thenF (f ρ) ρ fun d => .nx (ρ.set i (.fz d))
def sSetO (i : Nat) (f : Sls → Res D) : Sls → Fl := fun ρ => thenF (f ρ) ρ fun d => .nx (ρ.set i (.ow d))
theorem setF_reads {i : Nat} {D' : Ends} {σ : L2.St} {H : Hp} (hq : tSS X.K E (sSet i f) D' σ H) : tEF X.K E f σ H fun x H1 => gName i x σ H1 D'.nx := by
  obtain ⟨ρ, O, F, s, p⟩ := hq
  refine ⟨ρ, O, F, s, (FP.po s p).imp fun d p1 v H1 e1 r1 => ?_⟩
  obtain ⟨F', h1, h2⟩ := RSt.setF r1 i (s.same e1).st
  exact p1 _ H1 O F' ⟨h1, (s.same e1).dom⟩ (.sub h2 e1)
theorem setO_reads {i : Nat} {D' : Ends} {σ : L2.St} {H : Hp} (hq : tSS X.K E (sSetO i f) D' σ H) : tEN X.K E f σ H fun x H1 => gName i x σ H1 D'.nx := by
  obtain ⟨ρ, O, F, s, p⟩ := hq
  refine ⟨ρ, O, F, s, (FP.po s p).imp fun d p1 v a H1 e1 n r1 => ?_⟩
  have hk := r1.2.2
  have s2 := s.add e1 n hk.some hk.noTup
  have nF : a ∉ F := fun h => (s.st.owned a h).2 n
  obtain ⟨F', h1, h2⟩ := RSt.setO r1 i nF s2.st
  exact p1 _ H1 (Ad O a) F' ⟨h1, s2.dom⟩ ⟨fun b o q _ => e1 b o q, fun b hb => (h2 b hb).elim (fun z => .inr (by rw [z]; exact n)) .inl, fun b hb => .inl (.inl hb), fun b hb => hb.imp id fun z => by rw [z]; exact n⟩
theorem ss_set (i : Nat) {x : Str} (he : EF X E e f) (hN : X.N.Nodup) (hi : X.N[i]? = some x := by rfl) (hx : Loc X.env.scope x := by first | exact Or.inl rfl | exact Or.inr rfl) (hs : swapsWith e (some (.Name x pos')) pos.line X.env = pure false := by rfl)
    (hf : X.fn x = true ∨ X.env.scope.names.lookup x = some .local := by first | exact .inl rfl | exact .inr rfl | assumption) : SS X E (.Assign [.Name x pos'] e pos) (sSet i f) :=
  ps_imp (ps_set hN hi hx he hs hf) fun D σ H hq => setF_reads hq
theorem ss_setO (i : Nat) {x : Str} (he : EN X E e f) (hN : X.N.Nodup) (hi : X.N[i]? = some x := by rfl) (hx : Loc X.env.scope x := by first | exact Or.inl rfl | exact Or.inr rfl) (hs : swapsWith e (some (.Name x pos')) pos.line X.env = pure false := by rfl)
    (hf : X.fn x = true ∨ X.env.scope.names.lookup x = some .local := by first | exact .inl rfl | exact .inr rfl | assumption) : SS X E (.Assign [.Name x pos'] e pos) (sSetO i f) :=
  ps_imp (ps_set hN hi hx he hs hf) fun D σ H hq => setO_reads hq
/-- y = [..], y a plain local of this line -/
theorem ss_setLcO (i : Nat) {y : Str} {py : Pos} {elt tg iter : Expr} {ifs : List Expr} {scope : Scope} {own : List (Str × Nat)} {spos : Pos} {it : Sls → Res (List D)} {g : L2.TG} {t : TgF} {tt : Sls → Res Bool} {te : Sls → Res D} (hc : X.calm = true) (hN : X.N.Nodup) (hyl : X.env.scope.names.lookup y = some .local)
    (hsw : swapsWith (.ListComp elt [⟨tg, iter, ifs, 0⟩] scope pos) (some (.Name y py)) spos.line X.env = pure true) (hi : EI X E tg iter it) (ok' : BlkOk X.N X.env.scope scope own) (hgt : PP.TG X.K g t (own.map (·.2)))
    (hg : ∀ (s : Shared) (H : Hp) (C : Addr) (cl : List (Str × Addr)) (fp : List Addr), PG (X.blk s H scope (compEnvC scope cl C X.env) fp) tg g) (ht : ∀ (s : Shared) (H : Hp) (C : Addr) (cl : List (Str × Addr)) (fp : List Addr), ETs (X.blk s H scope (compEnvC scope cl C X.env) fp) E0' ifs tt)
    (he : ∀ (s : Shared) (H : Hp) (C : Addr) (cl : List (Str × Addr)) (fp : List Addr), EF (X.blk s H scope (compEnvC scope cl C X.env) fp) E0' elt te) (hy : X.N[i]? = some y := by rfl) (hs : ∀ x, foldedSetIterable iter X.env x = pure x := by intro _; rfl) :
    SS X E (.Assign [.Name y py] (.ListComp elt [⟨tg, iter, ifs, 0⟩] scope pos) spos) (sSetO i (mLc it (own.map (·.2)) t tt te)) :=
  ps_imp (ps_setLc (tt := tET X.K E0' tt) (te := tEF X.K E0' te) hc hN hy hyl hsw hi ok' hg ht he hs) fun D σ H hq => lc_reads hgt (setO_reads hq)
theorem en_ef {D' : Ends} {σ : L2.St} {H : Hp} {Q : VK} (h : tEF X.K E f σ H Q) : tEN X.K E f σ H Q := by
  obtain ⟨ρ, O, F, s, p⟩ := h
  exact ⟨ρ, O, F, s, p.imp fun d k v a H' e n r => k v H' e (r.frz (not_new s n))⟩
theorem ss_setLc (i : Nat) {y : Str} {py : Pos} {elt tg iter : Expr} {ifs : List Expr} {scope : Scope} {own : List (Str × Nat)} {spos : Pos} {it : Sls → Res (List D)} {g : L2.TG} {t : TgF} {tt : Sls → Res Bool} {te : Sls → Res D} (hc : X.calm = true) (hN : X.N.Nodup) (hyl : X.env.scope.names.lookup y = some .local)
    (hsw : swapsWith (.ListComp elt [⟨tg, iter, ifs, 0⟩] scope pos) (some (.Name y py)) spos.line X.env = pure true) (hi : EI X E tg iter it) (ok' : BlkOk X.N X.env.scope scope own) (hgt : PP.TG X.K g t (own.map (·.2)))
    (hg : ∀ (s : Shared) (H : Hp) (C : Addr) (cl : List (Str × Addr)) (fp : List Addr), PG (X.blk s H scope (compEnvC scope cl C X.env) fp) tg g) (ht : ∀ (s : Shared) (H : Hp) (C : Addr) (cl : List (Str × Addr)) (fp : List Addr), ETs (X.blk s H scope (compEnvC scope cl C X.env) fp) E0' ifs tt)
    (he : ∀ (s : Shared) (H : Hp) (C : Addr) (cl : List (Str × Addr)) (fp : List Addr), EF (X.blk s H scope (compEnvC scope cl C X.env) fp) E0' elt te) (hy : X.N[i]? = some y := by rfl) (hs : ∀ x, foldedSetIterable iter X.env x = pure x := by intro _; rfl) :
    SS X E (.Assign [.Name y py] (.ListComp elt [⟨tg, iter, ifs, 0⟩] scope pos) spos) (sSet i (mLc it (own.map (·.2)) t tt te)) :=
  ps_imp (ps_setLc (tt := tET X.K E0' tt) (te := tEF X.K E0' te) hc hN hy hyl hsw hi ok' hg ht he hs) fun D σ H hq => lc_reads hgt (en_ef (D' := D) (setF_reads hq))
/-- target = value -/
def sAsg (t : TgF) (f : Sls → Res D) : Sls → Fl := fun ρ => thenF (f ρ >>= fun d => (t d ρ).quiet) ρ fun ρ' => .nx ρ'
theorem ss_asg {tg : Expr} {g : L2.TG} {t : TgF} {vs : List Nat} (he : EF X E e f) (hg : PG X tg g) (hgt : PP.TG X.K g t vs) (hs : swapsWithSole [tg] e pos.line X.env = pure false := by rfl) (hw : swappedStores [tg] e X.env = pure none := by rfl)
    (h1 : (assignEach [tg] X.env).map (·.2) = [assign tg X.env] := by rfl) : SS X E (.Assign [tg] e pos) (sAsg t f) :=
  ps_imp (ps_asg he hg hs hw h1) fun D σ H ⟨ρ, O, F, s, p⟩ => ⟨ρ, O, F, s, (FP.po s p).bind.imp fun d p1 v H1 e1 r1 => hgt.run H1 O v d σ ρ F _ (s.same e1) r1 (by
    cases q : t d ρ with
    | ok ρ' => rw [q] at p1; exact fun σ' F' s' sub => p1 σ' H1 O F' s' (.sub sub e1)
    | exc c => rw [q] at p1; exact p1.elim
    | bad => rw [q] at p1; exact p1.elim)⟩

/-- a, b = x, y, plain locals -/
def sPar (i j : Nat) (f g : Sls → Res D) : Sls → Fl := fun ρ => thenF (f ρ) ρ fun x => thenF (g ρ) ρ fun y => .nx ((ρ.set i (.fz x)).set j (.fz y))
theorem ss_par (i j : Nat) {x y : Str} {a b : Expr} {g : Sls → Res D} {px py pt : Pos} {kt k2 pt2} (ha : EF X E a f) (hb : EF X E b g) (hc : X.calm = true) (hN : X.N.Nodup) (hi : X.N[i]? = some x := by rfl) (hj : X.N[j]? = some y := by rfl) (hij : i ≠ j := by decide)
    (hx : X.env.scope.names.lookup x = some .local := by rfl) (hy : X.env.scope.names.lookup y = some .local := by rfl)
    (hw : swappedStores [.Tuple [.Name x px, .Name y py] kt pt] (.Tuple [a, b] k2 pt2) X.env = pure (some [x, y]) := by rfl)
    (hs : swapsWithSole [.Tuple [.Name x px, .Name y py] kt pt] (.Tuple [a, b] k2 pt2) pos.line X.env = pure false := by rfl) (h1 : starEach [a, b] X.env = (false, eval a X.env) :: starEach [b] X.env := by rfl) (h2 : starEach [b] X.env = (false, eval b X.env) :: starEach [] X.env := by rfl) :
    SS X E (.Assign [.Tuple [.Name x px, .Name y py] kt pt] (.Tuple [a, b] k2 pt2) pos) (sPar i j f g) :=
  ps_imp (ps_par hc hN hi hj hij hx hy (pa_cons ha (pa_cons hb pa_nil h2) h1) hw hs) fun D σ H ⟨ρ, O, F, s, p⟩ => ⟨ρ, O, F, s, (FP.po s p).imp fun dx p1 v H1 e1 r1 =>
    ⟨ρ, O, F, s.same e1, ((FP.po s p1).imp fun dy p2 u H2 e2 r2 => by
      have e12 := e1.trans e2
      obtain ⟨F1, g1, g2⟩ := RSt.setF (r1.same e2) i (s.same e12).st
      obtain ⟨F2, g3, g4⟩ := RSt.setF r2 j g1
      exact ⟨v, u, rfl, p2 _ H2 O F2 ⟨g3, (s.same e12).dom⟩ (.sub (fun a h => g2 a (g4 a h)) e12)⟩).later e1⟩⟩
def sRet (f : Sls → Res D) : Sls → Fl := fun ρ => thenF (f ρ) ρ .rt
theorem ss_ret (he : EF X E e f) : SS X E (.Return (some e) pos) (sRet f) :=
  ps_imp (ps_ret he) fun D σ H ⟨ρ, O, F, s, p⟩ => ⟨ρ, O, F, s, (FP.po s p).imp fun d p1 v H1 e1 r1 => p1 v H1 O F r1 (.same e1)⟩
theorem ss_retN : SS X E (.Return none pos) (fun _ => .rt .non) :=
  ps_imp ps_retN fun D σ H ⟨ρ, O, F, s, p⟩ => p .non H O F .non .refl
def sIf (c : Sls → Res Bool) (s t : Sls → Fl) : Sls → Fl := fun ρ => thenF (c ρ) ρ fun b => if b then s ρ else t ρ
theorem ss_if {c : Expr} {a b : List Stmt} (hc : ET X E c tf) (ha : SSs X E a s1) (hb : SSs X E b s2) : SS X E (.If c a b pos) (sIf tf s1 s2) :=
  ps_imp (ps_if hc ha hb) fun D σ H ⟨ρ, O, F, s, p⟩ => ⟨ρ, O, F, s, (FP.po s p).imp fun b p1 H1 e1 => by
    cases b with
    | true => exact iteT ⟨ρ, O, F, s.same e1, FP.later s (.same e1) p1⟩
    | false => exact iteF ⟨ρ, O, F, s.same e1, FP.later s (.same e1) p1⟩⟩
def sDrop (f : Sls → Res D) : Sls → Fl := fun ρ => thenF (f ρ) ρ fun _ => .nx ρ
theorem ss_expr (he : EF X E e f) (hs : swapsWith e none pos.line X.env = pure false := by rfl) : SS X E (.Expr e pos) (sDrop f) :=
  ps_imp (ps_expr he hs) fun D σ H ⟨ρ, O, F, s, p⟩ => ⟨ρ, O, F, s, (FP.po s p).imp fun d p1 v H1 e1 r1 => p1 σ H1 O F (s.same e1) (.same e1)⟩
/-- raise C('..') -/
def sRaise (c : Str) : Sls → Fl := fun ρ => .exc c ρ
theorem ss_raise {c : Str} {W : WX} {ex : Expr} (hc : X.calm = true) (tk : Takes X W) (he : PMk X ex fun _ H Q => Q (.ref (He.ga X.K c)) none H) (hE : ∀ σ cls d H, E σ cls d H → W cls d σ H) : SS X E (.Raise (some ex) none pos) (sRaise c) :=
  ps_imp (ps_raise hc tk he) fun D σ H ⟨ρ, O, F, s, p⟩ => hE _ _ _ _ (p σ H O F s .refl)
/-- a slot's value is not changed any more -/
def frzAt (i : Nat) (ρ : Sls) : Sls := match ρ[i]? with
  | some (.ow d) => ρ.set i (.fz d)
  | _ => ρ
theorem Sta.frz {K : PySem.W.Frag} {H : Hp} {O : Addr → Prop} {σ : L2.St} {ρ : Sls} {F : List Addr} (s : Sta K H O σ ρ F) (i : Nat) : ∃ O' F', Sta K H O' σ (frzAt i ρ) F' ∧ Tr H O F H O' F' := by
  unfold frzAt
  split
  · rename_i d e
    obtain ⟨a, e1, hF, hO, hk⟩ := s.st.getO e
    obtain ⟨O', F', h1, h2, h3, h4⟩ := s.st.freeze' e
    exact ⟨O', F', ⟨h2, fun b hb => s.dom b (h1 b hb)⟩, ⟨fun _ _ q _ => q, fun b hb => .inl (h3 b hb), h4, fun b hb => .inl (h1 b hb)⟩⟩
  · exact ⟨O, F, s, .refl⟩
theorem ss_frz (i : Nat) (h : SS X E st s1) : SS X E st fun ρ => s1 (frzAt i ρ) :=
  ps_imp h fun D σ H ⟨ρ, O, F, s, p⟩ => by
    obtain ⟨O', F', s', t⟩ := s.frz i
    exact ⟨_, O', F', s', FP.later s t p⟩
/-! ### loops -/
def forL (step : D → Sls → Fl) : List D → Sls → Fl
  | [], ρ => .nx ρ
  | x :: xs, ρ => match step x ρ with
    | .nx ρ' => forL step xs ρ'
    | .ct ρ' => forL step xs ρ'
    | .bk ρ' => .nx ρ'
    | .rt d => .rt d
    | .exc c ρ' => .exc c ρ'
    | .bad => .bad
def sFor (it : Sls → Res (List D)) (t : TgF) (body : Sls → Fl) : Sls → Fl := fun ρ => thenF (it ρ) ρ fun xs => forL (fun x ρ => thenF (t x ρ).quiet ρ body) xs ρ
theorem ss_for {tg iter : Expr} {body : List Stmt} {it : Sls → Res (List D)} {g : L2.TG} {t : TgF} {vs : List Nat} (hp : PassesOwn (model X.prog X.w) X.A X.env X.xe) (hc : X.calm = true) (hi : EI X E tg iter it) (hg : PG X tg g) (hgt : PP.TG X.K g t vs) (hb : SSs X E body s1)
    (hs : ∀ x, foldedSetIterable iter X.env x = pure x := by intro _; rfl) : SS X E (.For tg iter body [] pos) (sFor it t s1) :=
  ps_imp (ps_for hp hc hi hg hb hs) fun D σ H ⟨ρ, O, F, s, p⟩ => ⟨ρ, O, F, s, (FP.po s p).imp fun xs p1 J H1 e1 hz hw => by
    refine ⟨fun i m σ2 H2 => m + i = xs.length ∧ ∃ ρ2 O2 F2, Sta X.K H2 O2 σ2 ρ2 F2 ∧ Tr H1 O F H2 O2 F2 ∧ FP X.K E D H2 O2 F2 (forL (fun x ρ => thenF (t x ρ).quiet ρ s1) (xs.drop i) ρ2), ⟨xs.length, by omega, ρ, O, F, s.same e1, .refl, FP.later s (.same e1) (by simpa using p1)⟩, ?_⟩
    rintro i m σ2 H2 ⟨hm, ρ2, O2, F2, s2, t2, p2⟩
    obtain ⟨w1, w2⟩ := hw H2 O2 (t2.later (s.same e1)) i
    by_cases hi : i < xs.length
    · have hdrop : xs.drop i = xs[i] :: xs.drop (i + 1) := List.drop_eq_getElem_cons hi
      rw [hdrop] at p2
      obtain ⟨go, yl⟩ := w1 xs[i] (List.getElem?_eq_getElem hi)
      refine .inr ⟨go, fun σ3 H3 => ∃ ρ3 O3 F3, Sta X.K H3 O3 σ3 ρ3 F3 ∧ Tr H1 O F H3 O3 F3 ∧ FP X.K E D H3 O3 F3 (forL (fun x ρ => thenF (t x ρ).quiet ρ s1) (xs.drop (i + 1)) ρ3), fun σ3 H3 q => ⟨m - 1, by omega, by omega, q⟩, fun x H3 hy => ?_⟩
      obtain ⟨e3, rx⟩ := yl x H3 hy
      have s3 := s2.same e3
      refine hgt.run H3 O2 x xs[i] σ2 ρ2 F2 _ s3 rx ?_
      have p3 : FP X.K E D H2 O2 F2 (match thenF (t xs[i] ρ2).quiet ρ2 s1 with
        | .nx ρ' => forL (fun x ρ => thenF (t x ρ).quiet ρ s1) (xs.drop (i + 1)) ρ'
        | .ct ρ' => forL (fun x ρ => thenF (t x ρ).quiet ρ s1) (xs.drop (i + 1)) ρ'
        | .bk ρ' => .nx ρ'
        | .rt d => .rt d
        | .exc c ρ' => .exc c ρ'
        | .bad => .bad) := p2
      cases q : t xs[i] ρ2 with
      | exc c => rw [q] at p3; exact p3.elim
      | bad => rw [q] at p3; exact p3.elim
      | ok ρ4 =>
        rw [q] at p3
        intro σ4 F4 s4 sub
        have t24 : Tr H2 O2 F2 H3 O2 F4 := .sub sub e3
        refine ⟨ρ4, O2, F4, s4, ?_⟩
        have p4 : FP X.K E D H3 O2 F4 (match s1 ρ4 with
          | .nx ρ' => forL (fun x ρ => thenF (t x ρ).quiet ρ s1) (xs.drop (i + 1)) ρ'
          | .ct ρ' => forL (fun x ρ => thenF (t x ρ).quiet ρ s1) (xs.drop (i + 1)) ρ'
          | .bk ρ' => .nx ρ'
          | .rt d => .rt d
          | .exc c ρ' => .exc c ρ'
          | .bad => .bad) := FP.later s2 t24 p3
        have t14 := t2.trans (s.same e1) t24
        cases q5 : s1 ρ4 with
        | nx ρ5 => rw [q5] at p4; exact fun σ5 H5 O5 F5 s5 t5 => ⟨ρ5, O5, F5, s5, t14.trans (s.same e1) t5, FP.later s4 t5 p4⟩
        | ct ρ5 => rw [q5] at p4; exact fun σ5 H5 O5 F5 s5 t5 => ⟨ρ5, O5, F5, s5, t14.trans (s.same e1) t5, FP.later s4 t5 p4⟩
        | bk ρ5 => rw [q5] at p4; exact p4
        | rt d => rw [q5] at p4; exact p4
        | exc c ρ5 => rw [q5] at p4; exact p4
        | bad => rw [q5] at p4; exact p4
    · rw [List.drop_eq_nil_of_le (by omega)] at p2
      exact .inl ⟨w2 (by omega), p2 σ2 H2 O2 F2 s2 .refl⟩⟩
def whileN (c : Sls → Res Bool) (body : Sls → Fl) : Nat → Sls → Fl
  | 0, _ => .bad
  | n + 1, ρ => thenF (c ρ) ρ fun b => if b then (match body ρ with
    | .nx ρ' => whileN c body n ρ'
    | .ct ρ' => whileN c body n ρ'
    | .bk ρ' => .nx ρ'
    | .rt d => .rt d
    | .exc e ρ' => .exc e ρ'
    | .bad => .bad) else .nx ρ
theorem ss_while (n : Nat) {c : Expr} {body : List Stmt} (hp : PassesOwn (model X.prog X.w) X.A X.env X.xe) (hc : ET X E c tf) (hb : SSs X E body s1) : SS X E (.While c body [] pos) (whileN tf s1 n) :=
  ps_imp (ps_while hp hc hb) fun D σ H ⟨ρ, O, F, s, p⟩ => by
    refine ⟨fun m σ2 H2 => ∃ ρ2 O2 F2, Sta X.K H2 O2 σ2 ρ2 F2 ∧ FP X.K E D H2 O2 F2 (whileN tf s1 m ρ2), ⟨n, ρ, O, F, s, p⟩, ?_⟩
    rintro m σ2 H2 ⟨ρ2, O2, F2, s2, p2⟩
    cases m with
    | zero => exact p2.elim
    | succ m =>
      refine ⟨ρ2, O2, F2, s2, (FP.po s2 p2).imp fun b p3 H3 e3 => ?_⟩
      cases b with
      | false => exact iteF (p3 σ2 H3 O2 F2 (s2.same e3) (.same e3))
      | true =>
        refine iteT ⟨fun σ4 H4 => ∃ ρ4 O4 F4, Sta X.K H4 O4 σ4 ρ4 F4 ∧ FP X.K E D H4 O4 F4 (whileN tf s1 m ρ4), fun σ4 H4 q => ⟨m, Nat.lt_succ_self m, q⟩, ρ2, O2, F2, s2.same e3, ?_⟩
        have s3 := s2.same e3
        have p4 : FP X.K E D H3 O2 F2 (match s1 ρ2 with
          | .nx ρ' => whileN tf s1 m ρ'
          | .ct ρ' => whileN tf s1 m ρ'
          | .bk ρ' => .nx ρ'
          | .rt d => .rt d
          | .exc e ρ' => .exc e ρ'
          | .bad => .bad) := FP.later s2 (.same e3) p3
        cases q5 : s1 ρ2 with
        | nx ρ5 => rw [q5] at p4; exact fun σ5 H5 O5 F5 s5 t5 => ⟨ρ5, O5, F5, s5, FP.later s3 t5 p4⟩
        | ct ρ5 => rw [q5] at p4; exact fun σ5 H5 O5 F5 s5 t5 => ⟨ρ5, O5, F5, s5, FP.later s3 t5 p4⟩
        | bk ρ5 => rw [q5] at p4; exact p4
        | rt d => rw [q5] at p4; exact p4
        | exc c ρ5 => rw [q5] at p4; exact p4
        | bad => rw [q5] at p4; exact p4
/-! ### xs.append(e) -/
def sApp (i : Nat) (f : Sls → Res D) : Sls → Fl := fun ρ => match ρ[i]? with
  | some (.ow (.lst ds)) => thenF (f ρ) ρ fun d => if ds.length < sizeLine then .nx (ρ.set i (.ow (.lst (ds ++ [d])))) else .bad
  | _ => .bad
theorem app_reads {i : Nat} {D' : Ends} {σ : L2.St} {H : Hp} {Kf : PySem.W.Frag} (hq : tSS Kf E (sApp i f) D' σ H) :
    tDrop (tBM Kf "list" rAppend (tVar i) (tCons (tEF Kf E f) tNil)) D' σ H := by
  obtain ⟨ρ, O, F, s, p⟩ := hq
  unfold sApp at p
  split at p
  · rename_i ds e
    obtain ⟨a, e1, hF, hO, vs, e2, z, r⟩ := s.st.getO e
    refine ⟨_, e1, .inl ⟨rfl, vs, .of e2⟩, ρ, O, F, s, (FP.po s p).imp fun d p1 v H1 eH r1 => ?_⟩
    have s1 := s.same eH
    have e3 := eH _ _ e2
    by_cases hl : ds.length < sizeLine
    · rw [if_pos hl] at p1
      refine ⟨a, vs, v, rfl, rfl, e3, by rw [r.length]; exact hl, ?_⟩
      have hk : RepK Kf (upd H1 a (.lst (vs ++ [v]))) O a (.lst (ds ++ [d])) := ⟨_, upd_same, by simp; rw [r.length]; exact hl, ((r.same eH).snoc r1).upd hO (noTup_lst e3)⟩
      have st2 := RSt.updAt hO (noTup_lst e3) hk e e1 s1.st
      refine p1 _ _ O F ⟨st2, fun b hb => ?_⟩ ⟨fun b o q n => ?_, fun b hb => .inl hb, fun b hb => .inl hb, fun b hb => .inl hb⟩
      · by_cases hba : b = a
        · subst hba; exact ⟨by rw [upd_same]; exact fun z => (nomatch z), noTup_lst upd_same⟩
        · obtain ⟨d1, d2⟩ := s1.dom b hb
          exact ⟨by rw [upd_ne hba]; exact d1, fun xs q => d2 xs (by rcases q with q | ⟨o, q⟩ <;> rw [upd_ne hba] at q; exact .inl q; exact .inr ⟨o, q⟩)⟩
      · rw [upd_ne (fun z => n (by rw [z]; exact hF))]
        exact eH _ _ q
    · rw [if_neg hl] at p1
      exact p1.elim
  · exact p.elim
theorem ss_app (i : Nat) {x : Str} {px apos cpos spos : Pos} (he : EF X E e f) (hN : X.N[i]? = some x := by rfl) (hv : Vis X.env.scope x := by first | exact Or.inl rfl | exact Or.inr (Or.inl rfl) | exact Or.inr (Or.inr rfl)) (hd : (x == ("__debug__" : Str)) = false := by decide)
    (hcd : (x == ("__classdict__" : Str)) = false := by decide)
    (hbase : attributeBase (.Name x px) "append" X.env (eval (.Name x px) X.env) = eval (.Name x px) X.env := by rfl)
    (hfew : ((backTo cpos (starEach [e] X.env)).all (fun x => !x.1) && (backToKw cpos (keywordEach [] X.env)).all (fun x => x.1.isSome)
      && decide (([e] : List Expr).length + ([] : List Keyword).length + (if ([] : List Keyword).isEmpty then 0 else 1) < 30)) = true := by rfl)
    (hline : (apos.endLine == cpos.line) = true := by rfl) (hs : starEach [e] X.env = (false, eval e X.env) :: starEach [] X.env := by rfl) (hplain : (backTo cpos (starEach [] X.env)).any (·.1) = false := by rfl)
    (hsw : swapsWith (.Call (.Attribute (.Name x px) "append" apos) [e] [] cpos) none spos.line X.env = pure false := by rfl) :
    SS X E (.Expr (.Call (.Attribute (.Name x px) "append" apos) [e] [] cpos) spos) (sApp i f) :=
  ps_imp (ps_expr (pe_bm PySem.F.plainAttrs_list PySem.F.slot_list_append PySem.F.type_list_append mt_append (pe_var hN hv hd hcd) (pa_cons he pa_nil hs) hbase hfew hline hs hplain) hsw) fun D σ H hq => app_reads hq

/-! ### defs -/
def startS (n : Nat) (ds : List D) : Sls := ds.map .fz ++ List.replicate (n - ds.length) .no
/-- a def with n slots and k parameters, its body s -/
def runF (n k : Nat) (s : Sls → Fl) : List D → Res D := fun ds => if ds.length = k then (match s (startS n ds) with
  | .rt d => ok d
  | .nx _ => ok .non
  | .exc c _ => exc c
  | _ => bad) else bad
end
section
variable {P : Program} {w : World} {K : PySem.W.Frag} {mg : Str → Option Value} {base : Heap}
theorem start_sta {H : Hp} {Z : Addr → Prop} {N : List Str} {vs : List V} {ds : List D} (r : Reps K H Z vs ds) (d : Dom H Z) : Sta K H Z (L2.start N vs) (startS N.length ds) [] := by
  refine ⟨?_, d⟩
  unfold L2.start startS
  rw [r.length]
  have nos : ∀ n : Nat, RSt K H Z (List.replicate n none) (List.replicate n Sl.no) [] := fun n => by
    induction n with
    | zero => exact .nil
    | succ n ih => exact .no ih
  have go : ∀ {vs : List V} {ds : List D}, Reps K H Z vs ds → RSt K H Z (vs.map some ++ List.replicate (N.length - 0) none) (ds.map Sl.fz ++ List.replicate (N.length - 0) Sl.no) [] → True := fun _ _ => trivial
  have all : ∀ {vs : List V} {ds : List D} {σ : L2.St} {ρ : Sls}, Reps K H Z vs ds → RSt K H Z σ ρ [] → RSt K H Z (vs.map some ++ σ) (ds.map Sl.fz ++ ρ) [] := by
    intro vs
    induction vs with
    | nil => intro ds σ ρ r t; cases r; exact t
    | cons v vs ih =>
      intro ds σ ρ r t
      cases r with
      | cons r rs => exact .fz r (ih rs t)
  exact all r (nos _)
/-- where nothing is owned at the entry -/
theorem Tr.entry {H H' : Hp} {O O' : Addr → Prop} {F' : List Addr} (t : Tr H O [] H' O' F') : Same H H' := fun a o h => t.keep a o h (by simp)
theorem fn_F {x qual : Str} {st : Stmt} {f : Addr} {fd : FuncData} {N ps : List Str} {k : Nat} {body : Sls → Fl} (Fu : Fun K x qual st f fd) (S : FnScope N ps (defScope st))
    (hb : ∀ (cdv : Value) (A : Around) (outer : List Env) (s : Shared) (H : Hp) (E : XK), Room k (A.deeper (envOfC qual (defScope st) s.heap.objs.size f cdv)) →
      SSs (cxOf (L2.CX P w) P w K mg base N qual (defScope st) f cdv A outer s H E) (fun _ => E) (defBody st) body) :
    FnOk P w K mg base (L2.CX P w) (k + 1) f fd ps (spF K (runF N.length ps.length body)) := by
  refine Fu.okX S (fun vs H Q E h => ?_) (fun cdv A outer s H vs Q E hr h => ⟨_, hb cdv A outer s H E hr, ?_⟩)
  · obtain ⟨ds, Z, r, d, h⟩ := h
    by_cases e : ds.length = ps.length
    · rw [r.length]; exact e
    · unfold runF at h; rw [if_neg e] at h; exact h.elim
  · obtain ⟨ds, Z, r, d, h⟩ := h
    have e : ds.length = ps.length := by
      by_cases e : ds.length = ps.length
      · exact e
      · unfold runF at h; rw [if_neg e] at h; exact h.elim
    unfold runF at h
    rw [if_pos e] at h
    refine ⟨startS N.length ds, Z, [], start_sta r d, ?_⟩
    have fin : ∀ {v : V} {x : D} {H' : Hp} {O' : Addr → Prop} {F' : List Addr}, Rep K H' O' v x → Tr H Z [] H' O' F' → Rep K H' Z v x := fun r t => r.less fun a ha => (t.own a ha).elim id fun z => by simp at z
    cases q : body (startS N.length ds) with
    | nx ρ' => rw [q] at h; exact fun σ' H' O' F' s' t => h .non H' t.entry .non
    | rt x => rw [q] at h; exact fun v H' O' F' r t => h v H' t.entry (fin r t)
    | exc c ρ' => rw [q] at h; exact fun σ' H' O' F' s' t => h H' t.entry
    | bk ρ' => rw [q] at h; exact h.elim
    | ct ρ' => rw [q] at h; exact h.elim
    | bad => rw [q] at h; exact h.elim
end
end PP

namespace PP
open PySem PySem.Spec PyProof.Rows L2
open Res (ok exc bad)
def putG (f : Str) (v : D) : List (Str × D) → List (Str × D)
  | [] => [(f, v)]
  | (g, w) :: r => if g = f then (g, v) :: r else (g, w) :: putG f v r
section
variable {K : PySem.W.Frag} {H : Hp} {O : Addr → Prop}
theorem RepFs.put {fn : Str} {v : V} {d : D} (r : Rep K H O v d) : ∀ {fs gs}, RepFs K H O fs gs → RepFs K H O (putF fn v fs) (putG fn d gs)
  | _, _, .nil => by unfold putF putG; exact .cons r .nil
  | _, _, .cons (x := y) q t => by
    unfold putF putG
    by_cases e : y = fn
    · rw [if_pos e, if_pos e]
      exact .cons r t
    · rw [if_neg e, if_neg e]
      exact .cons q (RepFs.put r t)
theorem RepFs.length : ∀ {fs gs}, RepFs K H O fs gs → fs.length = gs.length
  | _, _, .nil => rfl
  | _, _, .cons _ t => congrArg (· + 1) t.length
end
section
variable {X : Cx} {E : EX} {e : Expr} {f : Sls → Res D} {pos pos' : Pos}
/-- self.f = e, self in slot i -/
def sFldS (i : Nat) (c fn : Str) (f : Sls → Res D) : Sls → Fl := fun ρ => match ρ[i]? with
  | some (.me a (.obj c' gs)) => if c' = c ∧ gs.length < 900 then thenF (f ρ) ρ fun d => .nx (ρ.set i (.me a (.obj c' (putG fn d gs)))) else .bad
  | _ => .bad
theorem ss_fld (i : Nat) {c fn x : Str} {px : Pos} (hk : FldOk X.K fn c) (he : EF X E e f) (hN : X.N[i]? = some x := by rfl) (hv : Vis X.env.scope x := by first | exact Or.inl rfl | exact Or.inr (Or.inl rfl) | exact Or.inr (Or.inr rfl)) (hd : (x == ("__debug__" : Str)) = false := by decide)
    (hcd : (x == ("__classdict__" : Str)) = false := by decide) (hs : swapsWith e (some (.Attribute (.Name x px) fn pos')) pos.line X.env = pure false := by rfl) :
    SS X E (.Assign [.Attribute (.Name x px) fn pos'] e pos) (sFldS i c fn f) :=
  ps_imp (ps_fld (pe_var hN hv hd hcd) he hs) fun D σ H ⟨ρ, O, F, s, p⟩ => by
    unfold sFldS at p
    split at p
    · rename_i a c' gs eρ
      by_cases hc : c' = c ∧ gs.length < 900
      · rw [if_pos hc] at p
        obtain ⟨rfl, hl⟩ := hc
        refine ⟨ρ, O, F, s, (FP.po s p).imp fun d p1 v H1 e1 r1 => ?_⟩
        have s1 := s.same e1
        obtain ⟨g1, g2, g3, dx, fs, g4, g5⟩ := s1.st.getM eρ
        refine ⟨_, g1, a, _, dx, fs, rfl, g4, hk.1, hk.2, by rw [g5.length]; omega, ?_⟩
        have nt : NoTup H1 a := fun ys r => by rcases r with r | ⟨o, r⟩ <;> (rw [g4] at r; cases r)
        have hk2 : RepK X.K (upd H1 a (.ins (He.ga X.K c') dx (putF fn v fs))) O a (.obj c' (putG fn d gs)) := ⟨dx, _, upd_same, (RepFs.put r1 g5).upd g3 nt⟩
        have st2 := RSt.updMe g3 nt hk2 eρ s1.st
        refine p1 _ _ O F ⟨st2, fun b hb => ?_⟩ ⟨fun b o q n => ?_, fun b hb => .inl hb, fun b hb => .inl hb, fun b hb => .inl hb⟩
        · by_cases hba : b = a
          · subst hba; exact ⟨by rw [upd_same]; exact fun z => (nomatch z), hk2.noTup⟩
          · obtain ⟨d1, d2⟩ := s1.dom b hb
            exact ⟨by rw [upd_ne hba]; exact d1, fun xs q => d2 xs (by rcases q with q | ⟨o, q⟩ <;> rw [upd_ne hba] at q; exact .inl q; exact .inr ⟨o, q⟩)⟩
        · rw [upd_ne (fun z => n (by rw [z]; exact g2))]
          exact e1 _ _ q
      · rw [if_neg hc] at p
        exact p.elim
    · exact p.elim
/-! ### __init__ -/
/-- C.__init__(self, ..) of a new instance: it becomes the object f tells -/
def spI (K : PySem.W.Frag) (c : Str) (f : Addr → List D → Res D) : Sp := fun vs H Q E => ∃ a dx us ds Z, vs = .ref a :: us ∧ H a = some (.ins (He.ga K c) dx []) ∧ Z a ∧ Reps K H Z us ds ∧ Dom H Z ∧ (match f a ds with
  | .ok d => ∀ H', (∀ b o, b ≠ a → H b = some o → H' b = some o) → RepK K H' Z a d → Q .non H'
  | .exc x => ∀ H', (∀ b o, b ≠ a → H b = some o → H' b = some o) → E (.ref (He.ga K x)) none H'
  | .bad => False)
def meAt (a : Addr) : Option Sl → Res D
  | some (.me b d) => if b = a then ok d else bad
  | _ => bad
def runI (n k : Nat) (c : Str) (s : Sls → Fl) (a : Addr) (ds : List D) : Res D := if ds.length = k then (match s (.me a (.obj c []) :: startS (n - 1) ds) with
  | .nx ρ' => meAt a ρ'[0]?
  | .exc x _ => exc x
  | _ => bad) else bad
variable {CX : CXT} {n : Nat} {fa : Addr} {fd : FuncData} {ps : List Str} {x : Str} {p : Pos} {F : List D → Res D} {fi : Addr → List D → Res D} {es : List Expr} {fs : List (Sls → Res D)} {c : Str}
def mMake (F : List D → Res D) (fs : List (Sls → Res D)) : Sls → Res D := fun ρ => mArgs fs ρ >>= fun ds => (F ds).quiet
theorem ef_make (M : Mk X.K (He.ga X.K x) fa) (G : FnOk X.prog X.w X.K X.mg X.base (L2.CX X.prog X.w) n fa fd ps (spI X.K x fi)) (hF : ∀ a ds d, F ds = ok d → fi a ds = ok d) (hr : Room (n + 1) X.A) (hm : X.mg x = some (.ref (He.ga X.K x))) (hb : Binds X.K fd ps [])
    (ha : EA X E (e :: es) (mArgs fs)) (hg : Gl X x := by rfl) (hdb : (x == ("__debug__" : Str)) = false := by decide) (he : starEach (e :: es) X.env = (false, eval e X.env) :: starEach es X.env := by rfl) (hpl : (backTo pos (starEach es X.env)).any (·.1) = false := by rfl) :
    EF X E (.Call (.Name x p) (e :: es) [] pos) (mMake F fs) :=
  pe_imp (pe_make M G hr hg hm hb .nil passL ha hdb he hpl) fun σ H Q ⟨ρ, O, FF, s, p⟩ => ⟨ρ, O, FF, s, p.bind.imp fun ds p1 vs H1 e1 r1 y dx ny ndx nyx => by
    cases q : F ds with
    | ok d =>
      rw [q] at p1
      have s1 := s.same e1
      have nO : ¬ O y := fun h => (s1.dom y h).1 ny
      have sm : Same H1 (upd (upd H1 dx (.own y)) y (.ins (He.ga X.K x) dx [])) := (same_new ndx).trans (same_new (by rw [upd_ne (Ne.symm nyx)]; exact ny))
      refine ⟨y, dx, vs ++ [], ds, Ad O y, rfl, upd_same, .inr rfl, ?_, fun b hb => ?_, ?_⟩
      · rw [List.append_nil]; exact (r1.more ny).same sm
      · rcases hb with hb | hb
        · exact (s1.dom.same sm) b hb
        · subst hb; exact ⟨by rw [upd_same]; exact fun z => (nomatch z), fun ys r => by rcases r with r | ⟨o, r⟩ <;> (rw [upd_same] at r; cases r)⟩
      · rw [hF y ds d q]
        refine fun H' k rk => ⟨rfl, p1 _ H' (fun b o h => ?_) (rk.freeze nO fun _ z => .inl z)⟩
        have hby : b ≠ y := fun z => by subst z; rw [e1 b o h] at ny; cases ny
        exact k b o hby (sm b o (e1 b o h))
    | exc c => rw [q] at p1; exact p1.elim
    | bad => rw [q] at p1; exact p1.elim⟩
end
section
variable {P : Program} {w : World} {K : PySem.W.Frag} {mg : Str → Option Value} {base : Heap}
theorem fn_I {c x qual : Str} {st : Stmt} {f : Addr} {fd : FuncData} {N ps : List Str} {k n : Nat} {p0 : Str} {body : Sls → Fl} (Fu : Fun K x qual st f fd) (S : FnScope N (p0 :: ps) (defScope st)) (hn : N.length = n + 1)
    (hb : ∀ (cdv : Value) (A : Around) (outer : List Env) (s : Shared) (H : Hp) (E : XK), Room k (A.deeper (envOfC qual (defScope st) s.heap.objs.size f cdv)) →
      SSs (cxOf (L2.CX P w) P w K mg base N qual (defScope st) f cdv A outer s H E) (fun _ => E) (defBody st) body) :
    FnOk P w K mg base (L2.CX P w) (k + 1) f fd (p0 :: ps) (spI K c (runI (n + 1) ps.length c body)) := by
  refine Fu.okX S (fun vs H Q E h => ?_) (fun cdv A outer s H vs Q E hr h => ⟨_, hb cdv A outer s H E hr, ?_⟩)
  · obtain ⟨a, dx, us, ds, Z, rfl, ha, hz, r, d, h⟩ := h
    by_cases e : ds.length = ps.length
    · simp [r.length, e]
    · unfold runI at h; rw [if_neg e] at h; exact h.elim
  · obtain ⟨a, dx, us, ds, Z, rfl, ha, hz, r, d, h⟩ := h
    have e : ds.length = ps.length := by
      by_cases e : ds.length = ps.length
      · exact e
      · unfold runI at h; rw [if_neg e] at h; exact h.elim
    unfold runI at h
    rw [if_pos e] at h
    have e0 : L2.start N (.ref a :: us) = some (.ref a) :: L2.start (N.drop 1) us := by
      unfold L2.start
      simp only [List.map_cons, List.length_cons, List.cons_append, List.length_drop]
      congr 3
      omega
    have st1 := (start_sta (N := N.drop 1) r d).st
    have el : (N.drop 1).length = n := by simp [hn]
    rw [el] at st1
    have s0 : Sta K H Z (L2.start N (.ref a :: us)) (.me a (.obj c []) :: startS (n + 1 - 1) ds) [a] := ⟨by rw [e0]; exact .me ⟨rfl, hz, dx, [], ha, .nil⟩ (by simp) st1, d⟩
    refine ⟨_, Z, [a], s0, ?_⟩
    have keep : ∀ {H' : Hp} {O' : Addr → Prop} {F' : List Addr}, Tr H Z [a] H' O' F' → ∀ b o, b ≠ a → H b = some o → H' b = some o := fun t b o hb hq => t.keep b o hq (by simpa using hb)
    cases q : body (.me a (.obj c []) :: startS (n + 1 - 1) ds) with
    | nx ρ' =>
      rw [q] at h
      intro σ' H' O' F' s' t
      have h' : (match meAt a ρ'[0]? with
        | .ok d => ∀ H', (∀ b o, b ≠ a → H b = some o → H' b = some o) → RepK K H' Z a d → Q .non H'
        | .exc x => ∀ H', (∀ b o, b ≠ a → H b = some o → H' b = some o) → E (.ref (He.ga K x)) none H'
        | .bad => False) := h
      unfold meAt at h'
      split at h'
      · rename_i d0 e1
        split at e1
        · rename_i b d1 e2
          by_cases hb : b = a
          · rw [if_pos hb] at e1
            cases e1
            subst hb
            obtain ⟨_, _, o2, k2⟩ := s'.st.getM e2
            exact h' H' (keep t) (k2.less fun y hy => (t.own y hy).elim id fun z => by
              have : y = b := by simpa using z
              subst this; exact o2)
          · rw [if_neg hb] at e1; cases e1
        · cases e1
      · rename_i e1
        split at e1
        · split at e1 <;> cases e1
        · cases e1
      · exact h'.elim
    | rt x => rw [q] at h; exact h.elim
    | exc c ρ' => rw [q] at h; exact fun σ' H' O' F' s' t => h H' (keep t)
    | bk ρ' => rw [q] at h; exact h.elim
    | ct ρ' => rw [q] at h; exact h.elim
    | bad => rw [q] at h; exact h.elim
end
end PP

namespace PP
open PySem PySem.Spec PyProof.Rows L2
open Res (ok exc bad)

/-! ### whole numbers -/
def dSub : D → D → Option D
  | .int i, .int j => some (.int (i - j))
  | _, _ => none
def mulOk (i j : Int) : Bool := decide ((-(2 ^ 64) < i ∧ i < 2 ^ 64) ∨ (-(2 ^ 64) < j ∧ j < 2 ^ 64))
def dMul : D → D → Option D
  | .int i, .int j => if mulOk i j then some (.int (i * j)) else none
  | _, _ => none
def dMod : D → D → Option D
  | .int i, .int j => if 0 < j then some (.int (i % j)) else none
  | _, _ => none
def dDiv : D → D → Option D
  | .int i, .int j => if 0 < j ∧ j < 1073741824 then some (.int (i / j)) else none
  | _, _ => none
def dPow : D → D → Option D
  | .int i, .int j => if 0 ≤ j ∧ j ≤ 1000 ∧ i.natAbs < 2 ^ 64 then some (.int (i ^ j.toNat)) else none
  | _, _ => none
def dLt : D → D → Option D
  | .int i, .int j => some (.bl (decide (i < j)))
  | _, _ => none
def dLe : D → D → Option D
  | .int i, .int j => some (.bl (decide (i ≤ j)))
  | _, _ => none
def dGt : D → D → Option D
  | .int i, .int j => some (.bl (decide (j < i)))
  | _, _ => none
def dGe : D → D → Option D
  | .int i, .int j => some (.bl (decide (j ≤ i)))
  | _, _ => none
section
variable {K : PySem.W.Frag}
theorem op2_int {g : Int → Int → V} {C : Int → Int → Prop} {h : D → D → Option D} (hh : ∀ dx dy, (∃ i j d, dx = .int i ∧ dy = .int j ∧ C i j ∧ h dx dy = some d ∧ ∀ H O, Rep K H O (g i j) d) ∨ h dx dy = none) : Op2 K (rI C g) h := by
  intro H O x y dx dy Q dm rx ry q
  rcases hh dx dy with ⟨i, j, d, rfl, rfl, c, e, r⟩ | e
  · rw [e] at q
    exact ⟨i, j, rx.int, ry.int, c, q _ H (Same.refl H) (r H O)⟩
  · rw [e] at q; exact q.elim
theorem op2_int0 {g : Int → Int → V} {h : D → D → Option D} (hh : ∀ dx dy, (∃ i j d, dx = .int i ∧ dy = .int j ∧ h dx dy = some d ∧ ∀ H O, Rep K H O (g i j) d) ∨ h dx dy = none) : Op2 K (rI0 g) h := by
  intro H O x y dx dy Q dm rx ry q
  rcases hh dx dy with ⟨i, j, d, rfl, rfl, e, r⟩ | e
  · rw [e] at q
    exact ⟨i, j, rx.int, ry.int, q _ H (Same.refl H) (r H O)⟩
  · rw [e] at q; exact q.elim
theorem o_sub : Op2 K (rI0 fun i j => .int (i - j)) dSub := op2_int0 fun dx dy => by
  unfold dSub; split
  · exact .inl ⟨_, _, _, rfl, rfl, rfl, fun _ _ => .int _⟩
  · exact .inr rfl
theorem o_lt : Op2 K (rI0 fun i j => .bl (decide (i < j))) dLt := op2_int0 fun dx dy => by
  unfold dLt; split
  · exact .inl ⟨_, _, _, rfl, rfl, rfl, fun _ _ => .bl _⟩
  · exact .inr rfl
theorem o_le : Op2 K (rI0 fun i j => .bl (decide (i ≤ j))) dLe := op2_int0 fun dx dy => by
  unfold dLe; split
  · exact .inl ⟨_, _, _, rfl, rfl, rfl, fun _ _ => .bl _⟩
  · exact .inr rfl
theorem o_gt : Op2 K (rI0 fun i j => .bl (decide (j < i))) dGt := op2_int0 fun dx dy => by
  unfold dGt; split
  · exact .inl ⟨_, _, _, rfl, rfl, rfl, fun _ _ => .bl _⟩
  · exact .inr rfl
theorem o_ge : Op2 K (rI0 fun i j => .bl (decide (j ≤ i))) dGe := op2_int0 fun dx dy => by
  unfold dGe; split
  · exact .inl ⟨_, _, _, rfl, rfl, rfl, fun _ _ => .bl _⟩
  · exact .inr rfl
theorem o_mul : Op2 K (rI CMul fun i j => .int (i * j)) dMul := op2_int fun dx dy => by
  unfold dMul; split
  · rename_i i j
    by_cases c : mulOk i j = true
    · rw [if_pos c]; exact .inl ⟨i, j, _, rfl, rfl, (show (-(2 ^ 64) < i ∧ i < 2 ^ 64) ∨ (-(2 ^ 64) < j ∧ j < 2 ^ 64) from of_decide_eq_true c), rfl, fun _ _ => .int _⟩
    · rw [if_neg c]; exact .inr rfl
  · exact .inr rfl
theorem o_mod : Op2 K (rI (fun _ j => 0 < j) fun i j => .int (i % j)) dMod := op2_int fun dx dy => by
  unfold dMod; split
  · rename_i i j
    by_cases c : 0 < j
    · rw [if_pos c]; exact .inl ⟨_, _, _, rfl, rfl, c, rfl, fun _ _ => .int _⟩
    · rw [if_neg c]; exact .inr rfl
  · exact .inr rfl
theorem o_div : Op2 K (rI CDiv fun i j => .int (i / j)) dDiv := op2_int fun dx dy => by
  unfold dDiv; split
  · rename_i i j
    by_cases c : 0 < j ∧ j < 1073741824
    · rw [if_pos c]; exact .inl ⟨_, _, _, rfl, rfl, c, rfl, fun _ _ => .int _⟩
    · rw [if_neg c]; exact .inr rfl
  · exact .inr rfl
theorem o_pow : Op2 K (rI CPow fun i j => .int (i ^ j.toNat)) dPow := op2_int fun dx dy => by
  unfold dPow; split
  · rename_i i j
    by_cases c : 0 ≤ j ∧ j ≤ 1000 ∧ i.natAbs < 2 ^ 64
    · rw [if_pos c]; exact .inl ⟨_, _, _, rfl, rfl, ⟨c.1, by omega, c.2.2⟩, rfl, fun _ _ => .int _⟩
    · rw [if_neg c]; exact .inr rfl
  · exact .inr rfl
end

/-! ### + of numbers, texts, lists, tuples -/
def dAdd : D → D → Option D
  | .int i, .int j => some (.int (i + j))
  | .str x, .str y => if x.length + y.length ≤ sizeLine then some (.str (x ++ y)) else none
  | .lst xs, .lst ys => if xs.length + ys.length ≤ sizeLine then some (.lst (xs ++ ys)) else none
  | .tup xs, .tup ys => if xs.length + ys.length ≤ sizeLine then some (.tup (xs ++ ys)) else none
  | _, _ => none
def rCatS : R2 := fun x y H Q => ∃ l b xs zs, x = .ref l ∧ y = .ref b ∧ Rd H l (.lst xs) ∧ Rd H b (.lst zs) ∧ xs.length + zs.length ≤ sizeLine ∧ ∀ p, H p = none → Q (.ref p) (upd H p (.lst (xs ++ zs)))
section
variable {X : Cx}
theorem op_catS : OpR X (binaryOp .Add) rCatS := by
  intro pins s σ H x y v u Q I rx ry h
  obtain ⟨l, b, xs, zs, rfl, rfl, hH, hB, hz, q⟩ := h
  cases rx
  cases ry
  obtain ⟨hl, its, n, r, e⟩ := hH.ok I.hok
  obtain ⟨hl2, its2, n2, r2, e2⟩ := hB.ok I.hok
  have l1 := r.length
  have l2 := r2.length
  refine PySem.P.add_list e e2 ?_ (by rw [List.size_toArray, List.size_toArray]; omega)
  have ea : its.toArray ++ its2.toArray = (its ++ its2).toArray := by simp
  rw [ea]
  exact ⟨.ref _, _, I.lnew (t' := s.toks) (r.append r2) (by rw [List.length_append]; omega), rfl, q _ I.fresh⟩
def rAddA (K : PySem.W.Frag) : R2 := fun x y H Q => (∃ i j, x = .int i ∧ y = .int j ∧ Q (.int (i + j)) H) ∨ (∃ i j, x = .str i ∧ y = .str j ∧ i.length + j.length ≤ sizeLine ∧ Q (.str (i ++ j)) H) ∨ rCatS x y H Q ∨ rCatA K x y H Q
theorem op_addA : OpR X (binaryOp .Add) (rAddA X.K) := op_add.or (op_add_str.or (op_catS.or op_catA))
theorem o_add {K : PySem.W.Frag} : Op2 K (rAddA K) dAdd := by
  intro H O x y dx dy Q dm rx ry q
  unfold dAdd at q
  split at q
  · exact .inl ⟨_, _, rx.int, ry.int, q _ H (Same.refl H) (.int _)⟩
  · rename_i a b
    by_cases c : a.length + b.length ≤ sizeLine
    · rw [if_pos c] at q; exact .inr (.inl ⟨_, _, rx.str, ry.str, c, q _ H (Same.refl H) (.str _)⟩)
    · rw [if_neg c] at q; exact q.elim
  · rename_i xs ys
    by_cases c : xs.length + ys.length ≤ sizeLine
    · rw [if_pos c] at q
      obtain ⟨a, vs, rfl, h1, z1, r1⟩ := rx.lstR
      obtain ⟨b, ws, rfl, h2, z2, r2⟩ := ry.lstR
      have hz : vs.length + ws.length ≤ sizeLine := by rw [r1.length, r2.length]; exact c
      exact .inr (.inr (.inl ⟨a, b, vs, ws, rfl, rfl, h1, h2, hz, fun p n => q _ _ (same_new n) (.lst (.inl upd_same) (fun h => (dm p h).1 n) (by rw [List.length_append]; exact hz) ((r1.append r2).same (same_new n)))⟩))
    · rw [if_neg c] at q; exact q.elim
  · rename_i xs ys
    by_cases c : xs.length + ys.length ≤ sizeLine
    · rw [if_pos c] at q
      obtain ⟨a, vs, rfl, h1, z1, r1⟩ := rx.tup
      obtain ⟨b, ws, rfl, h2, z2, r2⟩ := ry.tup
      have hz : vs.length + ws.length ≤ sizeLine := by rw [r1.length, r2.length]; exact c
      refine .inr (.inr (.inr ⟨a, b, vs, ws, rfl, rfl, h1, h2, hz, fun e => ?_, fun _ e => ?_, fun _ _ p n => q _ _ (same_new n) (rep_newT n (by rw [List.length_append]; exact hz) (r1.append r2))⟩))
      · subst e
        cases r1
        exact q _ H (Same.refl H) (.tup h2 z2 r2)
      · subst e
        cases r2
        refine q _ H (Same.refl H) ?_
        rw [List.append_nil]
        exact .tup h1 z1 r1
    · rw [if_neg c] at q; exact q.elim
  · exact q.elim
/-- xs + ys, a new list that may be changed -/
def dCat : D → D → Option D
  | .lst xs, .lst ys => if xs.length + ys.length ≤ sizeLine then some (.lst (xs ++ ys)) else none
  | _, _ => none
theorem o_catN {K : PySem.W.Frag} : Op2N K rCatS dCat := by
  intro H O x y dx dy Q dm rx ry q
  unfold dCat at q
  split at q
  · rename_i xs ys
    by_cases c : xs.length + ys.length ≤ sizeLine
    · rw [if_pos c] at q
      obtain ⟨a, vs, rfl, h1, z1, r1⟩ := rx.lstR
      obtain ⟨b, ws, rfl, h2, z2, r2⟩ := ry.lstR
      have hz : vs.length + ws.length ≤ sizeLine := by rw [r1.length, r2.length]; exact c
      exact ⟨a, b, vs, ws, rfl, rfl, h1, h2, hz, fun p n => q _ p _ (same_new n) n (.newL n (by rw [List.length_append]; exact hz) (r1.append r2))⟩
    · rw [if_neg c] at q; exact q.elim
  · exact q.elim
end

/-! ### == of data -/
mutual
def toPD : D → Option PyData
  | .non => some .none
  | .bl b => some (.bool b)
  | .int i => some (.int i)
  | .str x => some (.str x)
  | .tup xs => (toPDs xs).map .tuple
  | .lst xs => (toPDs xs).map .list
  | .kl xs => (toPDs xs).map .list
  | _ => none
def toPDs : List D → Option (List PyData)
  | [] => some []
  | x :: xs => (toPD x).bind fun p => (toPDs xs).map fun ps => p :: ps
end
section
variable {K : PySem.W.Frag} {H : Hp} {O : Addr → Prop}
mutual
theorem Rep.dp : ∀ {v d p}, Rep K H O v d → toPD d = some p → Dp K H v p
  | _, _, _, .non, e => by simp [toPD] at e; subst e; exact .non
  | _, _, _, .bl b, e => by simp [toPD] at e; subst e; exact .bl b
  | _, _, _, .int i, e => by simp [toPD] at e; subst e; exact .int i
  | _, _, _, .str x, e => by simp [toPD] at e; subst e; exact .str x
  | _, _, _, .ty n, e => by simp [toPD] at e
  | _, _, _, .tup h z r, e => by
    simp [toPD] at e
    obtain ⟨ps, e1, e2⟩ := e
    subst e2
    exact .tup h (Reps.dp r e1)
  | _, _, _, .lst h n z r, e => by
    simp [toPD] at e
    obtain ⟨ps, e1, e2⟩ := e
    subst e2
    exact .lst (.inl h) (Reps.dp r e1)
  | _, _, _, .kl h z r, e => by
    simp [toPD] at e
    obtain ⟨ps, e1, e2⟩ := e
    subst e2
    exact .lst h.sql (Reps.dp r e1)
  | _, _, _, .obj h n r, e => by simp [toPD] at e
  | _, _, _, .dct h n z q r, e => by simp [toPD] at e
theorem Reps.dp : ∀ {vs ds ps}, Reps K H O vs ds → toPDs ds = some ps → DpAll K H vs ps
  | _, _, _, .nil, e => by simp [toPDs] at e; subst e; exact .nil
  | _, _, _, .cons r t, e => by
    simp only [toPDs, Option.bind_eq_some_iff, Option.map_eq_some_iff] at e
    obtain ⟨p, e1, ps, e2, e3⟩ := e
    subst e3
    exact .cons (Rep.dp r e1) (Reps.dp t e2)
end
theorem RepB.dp {v : V} {d : D} {p : PyData} (r : RepB K H O v d) (e : toPD d = some p) : Dp K H v p := by
  rcases r with r | ⟨a, e1, r⟩
  · exact r.dp e
  · subst e1
    cases d with
    | lst ds =>
      obtain ⟨vs, e2, z, r⟩ := r
      simp [toPD] at e
      obtain ⟨ps, e3, e4⟩ := e
      subst e4
      exact .lst (.of e2) (r.dp e3)
    | obj c gs => simp [toPD] at e
    | dct kvs => simp [toPD] at e
    | _ => exact r.elim
end
def deepEq (a b : D) : Option Bool := (toPD a).bind fun p => (toPD b).bind fun q => if SeqAt.shaped p && SeqAt.shaped q then some (PyData.eqv p q) else none
def dEq : D → D → Option D
  | .int i, .int j => some (.bl (decide (i = j)))
  | .str x, .str y => some (.bl (decide (x = y)))
  | .bl x, .bl y => some (.bl (decide (x = y)))
  | .non, .non => some (.bl true)
  | .non, .int _ => some (.bl false)
  | .non, .str _ => some (.bl false)
  | .int _, .non => some (.bl false)
  | .str _, .non => some (.bl false)
  | a, b => (deepEq a b).map .bl
def dNe (a b : D) : Option D := match dEq a b with
  | some (.bl k) => some (.bl (!k))
  | _ => none
section
variable {X : Cx}
def rEqA (K : PySem.W.Frag) : R2 := fun x y H Q => rEq x y H Q ∨ rEqD K x y H Q
def rNeA (K : PySem.W.Frag) : R2 := fun x y H Q => rNe x y H Q ∨ rNeD K x y H Q
theorem op_eqA (hu : X.A.units + 64 < cLine) : OpR X (compareOp .Eq) (rEqA X.K) := op_eq.or (op_eqD hu)
theorem op_neA (hu : X.A.units + 64 < cLine) : OpR X (compareOp .NotEq) (rNeA X.K) := op_ne.or (op_neD hu)
theorem dEq_cases {K : PySem.W.Frag} {H : Hp} {O : Addr → Prop} {x y : V} {dx dy d : D} (rx : RepB K H O x dx) (ry : RepB K H O y dy) (e : dEq dx dy = some d) :
    ∃ k, d = .bl k ∧ ((scal x y = true ∧ k = decide (x = y)) ∨ ∃ p q, Dp K H x p ∧ Dp K H y q ∧ SeqAt.shaped p = true ∧ SeqAt.shaped q = true ∧ k = PyData.eqv p q) := by
  unfold dEq at e
  split at e
  · cases e; rw [rx.int, ry.int]; exact ⟨_, rfl, .inl ⟨rfl, by simp⟩⟩
  · cases e; rw [rx.str, ry.str]; exact ⟨_, rfl, .inl ⟨rfl, by simp⟩⟩
  · cases e; rw [rx.bl, ry.bl]; exact ⟨_, rfl, .inl ⟨rfl, by simp⟩⟩
  · cases e; rw [rx.non, ry.non]; exact ⟨_, rfl, .inl ⟨rfl, by simp⟩⟩
  · cases e; rw [rx.non, ry.int]; exact ⟨_, rfl, .inl ⟨rfl, by simp⟩⟩
  · cases e; rw [rx.non, ry.str]; exact ⟨_, rfl, .inl ⟨rfl, by simp⟩⟩
  · cases e; rw [rx.int, ry.non]; exact ⟨_, rfl, .inl ⟨rfl, by simp⟩⟩
  · cases e; rw [rx.str, ry.non]; exact ⟨_, rfl, .inl ⟨rfl, by simp⟩⟩
  · obtain ⟨k, e1, e2⟩ := Option.map_eq_some_iff.mp e
    subst e2
    unfold deepEq at e1
    obtain ⟨p, e3, e1⟩ := Option.bind_eq_some_iff.mp e1
    obtain ⟨q, e4, e1⟩ := Option.bind_eq_some_iff.mp e1
    by_cases c : (SeqAt.shaped p && SeqAt.shaped q) = true
    · rw [if_pos c] at e1
      obtain ⟨c1, c2⟩ := Bool.and_eq_true_iff.mp c
      cases e1
      exact ⟨_, rfl, .inr ⟨p, q, rx.dp e3, ry.dp e4, c1, c2, rfl⟩⟩
    · rw [if_neg c] at e1; cases e1
theorem o_eq {K : PySem.W.Frag} : Op2 K (rEqA K) dEq := by
  intro H O x y dx dy Q dm rx ry q
  cases e : dEq dx dy with
  | none => rw [e] at q; exact q.elim
  | some d =>
    rw [e] at q
    obtain ⟨k, rfl, ⟨h1, rfl⟩ | ⟨p, p', h1, h2, h3, h4, rfl⟩⟩ := dEq_cases rx ry e
    · exact .inl ⟨h1, q _ H (Same.refl H) (.bl _)⟩
    · exact .inr ⟨p, p', h1, h2, h3, h4, q _ H (Same.refl H) (.bl _)⟩
theorem o_ne {K : PySem.W.Frag} : Op2 K (rNeA K) dNe := by
  intro H O x y dx dy Q dm rx ry q
  unfold dNe at q
  cases e : dEq dx dy with
  | none => rw [e] at q; exact q.elim
  | some d =>
    obtain ⟨k, rfl, ⟨h1, rfl⟩ | ⟨p, p', h1, h2, h3, h4, rfl⟩⟩ := dEq_cases rx ry e
    · rw [e] at q; exact .inl ⟨h1, q _ H (Same.refl H) (.bl _)⟩
    · rw [e] at q; exact .inr ⟨p, p', h1, h2, h3, h4, q _ H (Same.refl H) (.bl _)⟩
/-! ### in -/
def inSeq (d : D) (xs : List D) : Option Bool := (toPD d).bind fun p => (toPDs xs).bind fun ps => if SeqAt.shaped p && SeqAt.shaped (.list ps) then some (ps.any fun z => PyData.eqv z p) else none
def dIn : D → D → Option D
  | .str x, .str z => (match x.cps.toList with
    | [c] => some (.bl (decide (c ∈ z.cps.toList)))
    | _ => none)
  | d, .lst xs => (inSeq d xs).map .bl
  | d, .kl xs => (inSeq d xs).map .bl
  | d, .tup xs => (inSeq d xs).map .bl
  | _, _ => none
def dNotIn (a b : D) : Option D := match dIn a b with
  | some (.bl k) => some (.bl (!k))
  | _ => none
def rInT (K : PySem.W.Frag) : R2 := fun x y H Q => ∃ d ds, Dp K H x d ∧ Dp K H y (.tuple ds) ∧ SeqAt.shaped d = true ∧ SeqAt.shaped (.tuple ds) = true ∧ Q (.bl (ds.any fun z => PyData.eqv z d)) H
def rNotInT (K : PySem.W.Frag) : R2 := fun x y H Q => ∃ d ds, Dp K H x d ∧ Dp K H y (.tuple ds) ∧ SeqAt.shaped d = true ∧ SeqAt.shaped (.tuple ds) = true ∧ Q (.bl (!ds.any fun z => PyData.eqv z d)) H
theorem op_inT (hu : X.A.units + 65 < cLine) : OpR X (compareOp .In) (rInT X.K) := by
  intro pins s σ H x y v u Q I rx ry h
  obtain ⟨d, ds, hd, he, sd, se, q⟩ := h
  obtain ⟨as, r1⟩ := Dp.reads I d x v hd rx
  obtain ⟨bs, r2⟩ := Dp.reads I (.tuple ds) y u he ry
  exact SeqAt.in_tuple_reads r2 r1 (SeqAt.canLay_of_shaped se) (SeqAt.canLay_of_shaped sd) (room_in_shaped sd hu) ⟨.bl _, H, I, rfl, q⟩
theorem op_notInT (hu : X.A.units + 65 < cLine) : OpR X (compareOp .NotIn) (rNotInT X.K) := by
  intro pins s σ H x y v u Q I rx ry h
  obtain ⟨d, ds, hd, he, sd, se, q⟩ := h
  obtain ⟨as, r1⟩ := Dp.reads I d x v hd rx
  obtain ⟨bs, r2⟩ := Dp.reads I (.tuple ds) y u he ry
  exact SeqAt.notIn_tuple_reads r2 r1 (SeqAt.canLay_of_shaped se) (SeqAt.canLay_of_shaped sd) (room_in_shaped sd hu) ⟨.bl _, H, I, rfl, q⟩
def rInSign : R2 := fun x y H Q => ∃ (c : Nat) (z : Str), x = .str ⟨#[c]⟩ ∧ y = .str z ∧ Q (.bl (decide (c ∈ z.cps.toList))) H
def rNotInSign : R2 := fun x y H Q => ∃ (c : Nat) (z : Str), x = .str ⟨#[c]⟩ ∧ y = .str z ∧ Q (.bl (!decide (c ∈ z.cps.toList))) H
def rInA (K : PySem.W.Frag) : R2 := fun x y H Q => rInD K x y H Q ∨ rInT K x y H Q ∨ rInSign x y H Q
def rNotInA (K : PySem.W.Frag) : R2 := fun x y H Q => rNotInD K x y H Q ∨ rNotInT K x y H Q ∨ rNotInSign x y H Q
theorem op_inA (hu : X.A.units + 65 < cLine) : OpR X (compareOp .In) (rInA X.K) := (op_inD hu).or ((op_inT hu).or op_in_sign)
theorem op_notInA (hu : X.A.units + 65 < cLine) : OpR X (compareOp .NotIn) (rNotInA X.K) := (op_notInD hu).or ((op_notInT hu).or op_notIn_sign)
theorem shaped_tuple {ps : List PyData} (h : SeqAt.shaped (.list ps) = true) : SeqAt.shaped (.tuple ps) = true := by
  unfold SeqAt.shaped at h ⊢
  simpa [PyData.canLay0, PyData.depth] using h
theorem inSeq_ok {d : D} {xs : List D} {b : Bool} (h : inSeq d xs = some b) : ∃ p ps, toPD d = some p ∧ toPDs xs = some ps ∧ SeqAt.shaped p = true ∧ SeqAt.shaped (.list ps) = true ∧ b = ps.any fun z => PyData.eqv z p := by
  unfold inSeq at h
  obtain ⟨p, e1, h⟩ := Option.bind_eq_some_iff.mp h
  obtain ⟨ps, e2, h⟩ := Option.bind_eq_some_iff.mp h
  by_cases c : (SeqAt.shaped p && SeqAt.shaped (.list ps)) = true
  · rw [if_pos c] at h
    obtain ⟨c1, c2⟩ := Bool.and_eq_true_iff.mp c
    cases h
    exact ⟨p, ps, e1, e2, c1, c2, rfl⟩
  · rw [if_neg c] at h; cases h
theorem dIn_cases {K : PySem.W.Frag} {H : Hp} {O : Addr → Prop} {x y : V} {dx dy d : D} (rx : RepB K H O x dx) (ry : RepB K H O y dy) (e : dIn dx dy = some d) :
    ∃ k, d = .bl k ∧ ((∃ p ps, Dp K H x p ∧ (Dp K H y (.list ps) ∨ Dp K H y (.tuple ps)) ∧ SeqAt.shaped p = true ∧ SeqAt.shaped (.list ps) = true ∧ k = ps.any fun z => PyData.eqv z p) ∨ ∃ c z, x = .str ⟨#[c]⟩ ∧ y = .str z ∧ k = decide (c ∈ z.cps.toList)) := by
  unfold dIn at e
  split at e
  · rename_i x' z
    split at e
    · rename_i c hc
      cases e
      have ex : x' = ⟨#[c]⟩ := by
        obtain ⟨a⟩ := x'
        have : a = #[c] := by
          have h2 : a.toList = [c] := hc
          calc a = a.toList.toArray := by simp
            _ = #[c] := by rw [h2]
        rw [this]
      exact ⟨_, rfl, .inr ⟨c, z, by rw [rx.str, ex], ry.str, rfl⟩⟩
    · cases e
  · obtain ⟨k, e1, e2⟩ := Option.map_eq_some_iff.mp e
    obtain ⟨p, ps, h1, h2, h3, h4, h5⟩ := inSeq_ok e1
    exact ⟨k, e2.symm, .inl ⟨p, ps, rx.dp h1, .inl (ry.dp (by simp [toPD, h2])), h3, h4, h5⟩⟩
  · obtain ⟨k, e1, e2⟩ := Option.map_eq_some_iff.mp e
    obtain ⟨p, ps, h1, h2, h3, h4, h5⟩ := inSeq_ok e1
    exact ⟨k, e2.symm, .inl ⟨p, ps, rx.dp h1, .inl (ry.dp (by simp [toPD, h2])), h3, h4, h5⟩⟩
  · obtain ⟨k, e1, e2⟩ := Option.map_eq_some_iff.mp e
    obtain ⟨p, ps, h1, h2, h3, h4, h5⟩ := inSeq_ok e1
    exact ⟨k, e2.symm, .inl ⟨p, ps, rx.dp h1, .inr (ry.dp (by simp [toPD, h2])), h3, h4, h5⟩⟩
  · cases e
theorem o_in {K : PySem.W.Frag} : Op2 K (rInA K) dIn := by
  intro H O x y dx dy Q dm rx ry q
  cases e : dIn dx dy with
  | none => rw [e] at q; exact q.elim
  | some d =>
    rw [e] at q
    obtain ⟨k, rfl, ⟨p, ps, h1, h2 | h2, h3, h4, rfl⟩ | ⟨c, z, h1, h2, rfl⟩⟩ := dIn_cases rx ry e
    · exact .inl ⟨p, ps, h1, h2, h3, h4, q _ H (Same.refl H) (.bl _)⟩
    · exact .inr (.inl ⟨p, ps, h1, h2, h3, shaped_tuple h4, q _ H (Same.refl H) (.bl _)⟩)
    · exact .inr (.inr ⟨c, z, h1, h2, q _ H (Same.refl H) (.bl _)⟩)
theorem o_notIn {K : PySem.W.Frag} : Op2 K (rNotInA K) dNotIn := by
  intro H O x y dx dy Q dm rx ry q
  unfold dNotIn at q
  cases e : dIn dx dy with
  | none => rw [e] at q; exact q.elim
  | some d =>
    obtain ⟨k, rfl, ⟨p, ps, h1, h2 | h2, h3, h4, rfl⟩ | ⟨c, z, h1, h2, rfl⟩⟩ := dIn_cases rx ry e
    · rw [e] at q; exact .inl ⟨p, ps, h1, h2, h3, h4, q _ H (Same.refl H) (.bl _)⟩
    · rw [e] at q; exact .inr (.inl ⟨p, ps, h1, h2, h3, shaped_tuple h4, q _ H (Same.refl H) (.bl _)⟩)
    · rw [e] at q; exact .inr (.inr ⟨c, z, h1, h2, q _ H (Same.refl H) (.bl _)⟩)
/-! ### is None -/
def dIsN : D → D → Option D
  | .non, .non => some (.bl true)
  | .obj _ _, .non => some (.bl false)
  | .lst _, .non => some (.bl false)
  | .tup _, .non => some (.bl false)
  | .int _, .non => some (.bl false)
  | .str _, .non => some (.bl false)
  | .bl _, .non => some (.bl false)
  | _, _ => none
def dNotN (a b : D) : Option D := match dIsN a b with
  | some (.bl k) => some (.bl (!k))
  | _ => none
def rIsN : R2 := fun x y H Q => y = .non ∧ Q (.bl (decide (x = .non))) H
def rNotN : R2 := fun x y H Q => y = .non ∧ Q (.bl (!decide (x = .non))) H
theorem dIsN_ok {K : PySem.W.Frag} {H : Hp} {O : Addr → Prop} {x y : V} {dx dy d : D} (rx : RepB K H O x dx) (ry : RepB K H O y dy) (e : dIsN dx dy = some d) : y = .non ∧ d = .bl (decide (x = .non)) := by
  unfold dIsN at e
  split at e <;> cases e
  · rw [rx.non, ry.non]; exact ⟨rfl, rfl⟩
  · obtain ⟨a, _, _, e1, _⟩ := rx.obj; rw [e1, ry.non]; exact ⟨rfl, rfl⟩
  · obtain ⟨a, _, e1, _⟩ := rx.lst; rw [e1, ry.non]; exact ⟨rfl, rfl⟩
  · obtain ⟨a, _, e1, _⟩ := rx.tup; rw [e1, ry.non]; exact ⟨rfl, rfl⟩
  · rw [rx.int, ry.non]; exact ⟨rfl, rfl⟩
  · rw [rx.str, ry.non]; exact ⟨rfl, rfl⟩
  · rw [rx.bl, ry.non]; exact ⟨rfl, rfl⟩
theorem o_isN {K : PySem.W.Frag} : Op2 K rIsN dIsN := by
  intro H O x y dx dy Q dm rx ry q
  cases e : dIsN dx dy with
  | none => rw [e] at q; exact q.elim
  | some d =>
    rw [e] at q
    obtain ⟨h1, rfl⟩ := dIsN_ok rx ry e
    exact ⟨h1, q _ H (Same.refl H) (.bl _)⟩
theorem o_notN {K : PySem.W.Frag} : Op2 K rNotN dNotN := by
  intro H O x y dx dy Q dm rx ry q
  unfold dNotN at q
  cases e : dIsN dx dy with
  | none => rw [e] at q; exact q.elim
  | some d =>
    obtain ⟨h1, rfl⟩ := dIsN_ok rx ry e
    rw [e] at q
    exact ⟨h1, q _ H (Same.refl H) (.bl _)⟩
/-! ### o[i] -/
def dIx : D → D → Option D
  | .lst xs, .int i => atI xs i
  | .kl xs, .int i => atI xs i
  | .tup xs, .int i => atI xs i
  | .str z, .int i => if z.length ≤ sizeLine then (atI z.cps.toList i).map fun c => .str ⟨#[c]⟩ else none
  | _, _ => none
theorem Reps.atI {K : PySem.W.Frag} {H : Hp} {O : Addr → Prop} {vs : List V} {ds : List D} {i : Int} {d : D} (r : Reps K H O vs ds) (h : L2.atI ds i = some d) : ∃ v, L2.atI vs i = some v ∧ Rep K H O v d := by
  unfold L2.atI at h ⊢
  rw [r.length]
  obtain ⟨j, e1, e2⟩ := Option.bind_eq_some_iff.mp h
  obtain ⟨v, e3, e4⟩ := r.get e2
  exact ⟨v, by rw [e1]; exact e3, e4⟩
theorem o_ix {K : PySem.W.Frag} : Op2 K (rIx K) dIx := by
  intro H O x y dx dy Q dm rx ry q
  cases e : dIx dx dy with
  | none => rw [e] at q; exact q.elim
  | some d =>
    rw [e] at q
    unfold dIx at e
    split at e
    · obtain ⟨a, vs, rfl, h1, z, r⟩ := rx.lst
      obtain ⟨v, e1, rv⟩ := r.atI e
      exact .inl ⟨a, vs, _, v, rfl, ry.int, h1, e1, q _ H (Same.refl H) rv⟩
    · obtain ⟨a, vs, rfl, h1, z, r⟩ := rx.kl
      obtain ⟨v, e1, rv⟩ := r.atI e
      exact .inl ⟨a, vs, _, v, rfl, ry.int, h1, e1, q _ H (Same.refl H) rv⟩
    · obtain ⟨a, vs, rfl, h1, z, r⟩ := rx.tup
      obtain ⟨v, e1, rv⟩ := r.atI e
      exact .inr (.inl ⟨a, vs, _, v, rfl, ry.int, h1, e1, q _ H (Same.refl H) rv⟩)
    · rename_i z i
      by_cases c : z.length ≤ sizeLine
      · rw [if_pos c] at e
        obtain ⟨c', e1, e2⟩ := Option.map_eq_some_iff.mp e
        subst e2
        exact .inr (.inr ⟨z, i, c', rx.str, ry.int, c, e1, q _ H (Same.refl H) (.str _)⟩)
      · rw [if_neg c] at e; cases e
    · cases e
/-! ### o[i:j] -/
def cutD (xs : List D) (lo hi : Option Int) : List D := (xs.drop (HT.sIx xs.length 0 lo)).take (HT.sIx xs.length xs.length hi - HT.sIx xs.length 0 lo)
def dSl : D → Option Int → Option Int → Option D
  | .lst xs, lo, hi => some (.lst (cutD xs lo hi))
  | .kl xs, lo, hi => some (.lst (cutD xs lo hi))
  | .tup xs, lo, hi => some (.tup (cutD xs lo hi))
  | .str z, lo, hi => if z.length ≤ sizeLine then some (.str (cutS z lo hi)) else none
  | _, _, _ => none
def rSlA' (K : PySem.W.Frag) : V → Option Int → Option Int → Hp → VK → Prop := fun x lo hi H Q => rSlL K x lo hi H Q ∨ rSlA K x lo hi H Q ∨ rSlS x lo hi H Q
theorem sl_any : SlR X (rSlA' X.K) := sl_list.or (sl_tupA.or sl_str)
theorem Reps.cut {K : PySem.W.Frag} {H : Hp} {O : Addr → Prop} {vs : List V} {ds : List D} (r : Reps K H O vs ds) (lo hi : Option Int) : Reps K H O (cutV vs lo hi) (cutD ds lo hi) := by
  unfold cutV cutD
  rw [r.length]
  exact (r.drop _).take _
theorem cut_whole {xs : List D} {lo hi : Option Int} (h : HT.sIx xs.length 0 lo = 0 ∧ HT.sIx xs.length xs.length hi = xs.length) : cutD xs lo hi = xs := by
  unfold cutD
  rw [h.1, h.2]
  simp
theorem s_any {K : PySem.W.Frag} : Sl3 K (rSlA' K) dSl := by
  intro H O x dx lo hi Q dm rx q
  unfold dSl at q
  split at q
  · obtain ⟨a, vs, rfl, h1, z, r⟩ := rx.lst
    exact .inl ⟨a, vs, rfl, h1, fun p n => q _ _ (same_new n) (.lst (.inl upd_same) (fun h => (dm p h).1 n) (Nat.le_trans (cutV_length _ _ _) z) ((r.cut _ _).same (same_new n)))⟩
  · obtain ⟨a, vs, rfl, h1, z, r⟩ := rx.kl
    exact .inl ⟨a, vs, rfl, h1, fun p n => q _ _ (same_new n) (.lst (.inl upd_same) (fun h => (dm p h).1 n) (Nat.le_trans (cutV_length _ _ _) z) ((r.cut _ _).same (same_new n)))⟩
  · rename_i xs
    obtain ⟨a, vs, rfl, h1, z, r⟩ := rx.tup
    refine .inr (.inl ⟨a, vs, rfl, h1, fun w => ?_, fun _ p n => q _ _ (same_new n) (rep_newT n (Nat.le_trans (cutV_length _ _ _) z) (r.cut _ _))⟩)
    rw [r.length] at w
    rw [cut_whole w] at q
    exact q _ H (Same.refl H) (.tup h1 z r)
  · rename_i z
    by_cases c : z.length ≤ sizeLine
    · rw [if_pos c] at q; exact .inr (.inr ⟨z, rx.str, c, q _ H (Same.refl H) (.str _)⟩)
    · rw [if_neg c] at q; exact q.elim
  · exact q.elim
def dSlN : D → Option Int → Option Int → Option D
  | .lst xs, lo, hi => some (.lst (cutD xs lo hi))
  | .kl xs, lo, hi => some (.lst (cutD xs lo hi))
  | _, _, _ => none
theorem s_listN {K : PySem.W.Frag} : Sl3N K (rSlL K) dSlN := by
  intro H O x dx lo hi Q dm rx q
  unfold dSlN at q
  split at q
  · obtain ⟨a, vs, rfl, h1, z, r⟩ := rx.lst
    exact ⟨a, vs, rfl, h1, fun p n => q _ p _ (same_new n) n (.newL n (Nat.le_trans (cutV_length _ _ _) z) (r.cut _ _))⟩
  · obtain ⟨a, vs, rfl, h1, z, r⟩ := rx.kl
    exact ⟨a, vs, rfl, h1, fun p n => q _ p _ (same_new n) n (.newL n (Nat.le_trans (cutV_length _ _ _) z) (r.cut _ _))⟩
  · exact q.elim
end
end PP

namespace PP
open PySem PySem.Spec PyProof.Rows L2
open Res (ok exc bad)
section
variable {K : PySem.W.Frag} {H : Hp} {O : Addr → Prop}
theorem RepBs.one {vs : List V} {d : D} (r : RepBs K H O vs [d]) : ∃ v, vs = [v] ∧ RepB K H O v d := by
  cases r with
  | cons r t => cases t; exact ⟨_, rfl, r⟩
theorem RepBs.two {vs : List V} {d e : D} (r : RepBs K H O vs [d, e]) : ∃ v u, vs = [v, u] ∧ RepB K H O v d ∧ RepB K H O u e := by
  cases r with
  | cons r t =>
    obtain ⟨u, e1, r2⟩ := t.one
    subst e1
    exact ⟨_, _, rfl, r, r2⟩
end
/-! ### len, abs, int, tuple, list -/
def dLen : List D → Option D
  | [.lst xs] => some (.int xs.length)
  | [.kl xs] => some (.int xs.length)
  | [.tup xs] => some (.int xs.length)
  | [.str z] => if z.length ≤ sizeLine then some (.int z.length) else none
  | _ => none
theorem c_len {K : PySem.W.Frag} : Cl1 K (fun xs H Q => ∃ x n, xs = [x] ∧ LenV K x H n ∧ Q (.int n) H) dLen := by
  intro H O vs ds Q dm rs q
  unfold dLen at q
  split at q
  · obtain ⟨v, rfl, r⟩ := rs.one
    obtain ⟨a, us, rfl, h, z, r2⟩ := r.lst
    exact ⟨_, us.length, rfl, .inl ⟨us, h, rfl⟩, by rw [r2.length]; exact q _ H (Same.refl H) (.int _)⟩
  · obtain ⟨v, rfl, r⟩ := rs.one
    obtain ⟨a, us, rfl, h, z, r2⟩ := r.kl
    exact ⟨_, us.length, rfl, .inl ⟨us, h, rfl⟩, by rw [r2.length]; exact q _ H (Same.refl H) (.int _)⟩
  · obtain ⟨v, rfl, r⟩ := rs.one
    obtain ⟨a, us, rfl, h, z, r2⟩ := r.tup
    exact ⟨_, us.length, rfl, .inr ⟨us, h, rfl⟩, by rw [r2.length]; exact q _ H (Same.refl H) (.int _)⟩
  · rename_i z
    by_cases c : z.length ≤ sizeLine
    · rw [if_pos c] at q
      obtain ⟨v, rfl, r⟩ := rs.one
      have ev := r.str
      subst ev
      exact ⟨.str z, z.length, rfl, ⟨c, rfl⟩, q _ H (Same.refl H) (.int _)⟩
    · rw [if_neg c] at q; exact q.elim
  · exact q.elim
def dAbs : List D → Option D
  | [.int i] => some (.int (if i < 0 then -i else i))
  | _ => none
theorem c_abs {K : PySem.W.Frag} : Cl1 K (fun xs H Q => ∃ i, xs = [.int i] ∧ Q (.int (if i < 0 then -i else i)) H) dAbs := by
  intro H O vs ds Q dm rs q
  unfold dAbs at q
  split at q
  · obtain ⟨v, rfl, r⟩ := rs.one
    rw [r.int]
    exact ⟨_, rfl, q _ H (Same.refl H) (.int _)⟩
  · exact q.elim
def dInt : List D → Option D
  | [.int i] => some (.int i)
  | [.bl b] => some (.int (if b then 1 else 0))
  | _ => none
theorem c_int {K : PySem.W.Frag} : Cl1 K (fun xs H Q => (∃ i, xs = [.int i] ∧ Q (.int i) H) ∨ ∃ k, xs = [.bl k] ∧ Q (.int (if k then 1 else 0)) H) dInt := by
  intro H O vs ds Q dm rs q
  unfold dInt at q
  split at q
  · obtain ⟨v, rfl, r⟩ := rs.one
    rw [r.int]
    exact .inl ⟨_, rfl, q _ H (Same.refl H) (.int _)⟩
  · obtain ⟨v, rfl, r⟩ := rs.one
    rw [r.bl]
    exact .inr ⟨_, rfl, q _ H (Same.refl H) (.int _)⟩
  · exact q.elim
def dTuple : List D → Option D
  | [.lst xs] => some (.tup xs)
  | [.kl xs] => some (.tup xs)
  | [.tup xs] => some (.tup xs)
  | _ => none
theorem c_tuple {K : PySem.W.Frag} : Cl1 K (fun xs H Q => ∃ p ys, xs = [.ref p] ∧ ((SqL K H p ys ∧ ∀ l, H l = none → Q (.ref l) (upd H l (.tup ys))) ∨ (SqT K H p ys ∧ Q (.ref p) H))) dTuple := by
  intro H O vs ds Q dm rs q
  unfold dTuple at q
  split at q
  · obtain ⟨v, rfl, r⟩ := rs.one
    obtain ⟨a, us, rfl, h, z, r2⟩ := r.lst
    exact ⟨a, us, rfl, .inl ⟨h, fun p n => q _ _ (same_new n) (rep_newT n z r2)⟩⟩
  · obtain ⟨v, rfl, r⟩ := rs.one
    obtain ⟨a, us, rfl, h, z, r2⟩ := r.kl
    exact ⟨a, us, rfl, .inl ⟨h, fun p n => q _ _ (same_new n) (rep_newT n z r2)⟩⟩
  · obtain ⟨v, rfl, r⟩ := rs.one
    obtain ⟨a, us, rfl, h, z, r2⟩ := r.tup
    exact ⟨a, us, rfl, .inr ⟨h, q _ H (Same.refl H) (.tup h z r2)⟩⟩
  · exact q.elim
def dList : List D → Option D
  | [.lst xs] => some (.lst xs)
  | [.kl xs] => some (.lst xs)
  | [.tup xs] => some (.lst xs)
  | _ => none
theorem c_list {K : PySem.W.Frag} : Cl1N K (fun xs H Q => ∃ p ys, xs = [.ref p] ∧ (SqL K H p ys ∨ SqT K H p ys) ∧ ∀ l, H l = none → Q (.ref l) (upd H l (.lst ys))) dList := by
  intro H O vs ds Q dm rs q
  unfold dList at q
  split at q
  · obtain ⟨v, rfl, r⟩ := rs.one
    obtain ⟨a, us, rfl, h, z, r2⟩ := r.lst
    exact ⟨a, us, rfl, .inl h, fun p n => q _ p _ (same_new n) n (.newL n z r2)⟩
  · obtain ⟨v, rfl, r⟩ := rs.one
    obtain ⟨a, us, rfl, h, z, r2⟩ := r.kl
    exact ⟨a, us, rfl, .inl h, fun p n => q _ p _ (same_new n) n (.newL n z r2)⟩
  · obtain ⟨v, rfl, r⟩ := rs.one
    obtain ⟨a, us, rfl, h, z, r2⟩ := r.tup
    exact ⟨a, us, rfl, .inr h, fun p n => q _ p _ (same_new n) n (.newL n z r2)⟩
  · exact q.elim
/-! ### all, any, sum -/
def asBs : List D → Option (List Bool)
  | [] => some []
  | x :: xs => (asB x).bind fun b => (asBs xs).map fun bs => b :: bs
theorem asBs_ok {K : PySem.W.Frag} {H : Hp} {O : Addr → Prop} : ∀ {vs : List V} {ds : List D} {bs : List Bool}, Reps K H O vs ds → asBs ds = some bs → vs = bs.map V.bl
  | _, _, _, .nil, e => by simp [asBs] at e; subst e; rfl
  | _, _, _, .cons r t, e => by
    simp only [asBs, Option.bind_eq_some_iff, Option.map_eq_some_iff] at e
    obtain ⟨b, e1, bs, e2, e3⟩ := e
    subst e3
    have : _ := asBs_ok t e2
    subst this
    unfold asB at e1
    split at e1
    · cases e1; cases r; rfl
    · cases e1
def asIs : List D → Option (List Int)
  | [] => some []
  | x :: xs => (asI x).bind fun b => (asIs xs).map fun bs => b :: bs
theorem asIs_ok {K : PySem.W.Frag} {H : Hp} {O : Addr → Prop} : ∀ {vs : List V} {ds : List D} {bs : List Int}, Reps K H O vs ds → asIs ds = some bs → vs = bs.map V.int
  | _, _, _, .nil, e => by simp [asIs] at e; subst e; rfl
  | _, _, _, .cons r t, e => by
    simp only [asIs, Option.bind_eq_some_iff, Option.map_eq_some_iff] at e
    obtain ⟨b, e1, bs, e2, e3⟩ := e
    subst e3
    have : _ := asIs_ok t e2
    subst this
    unfold asI at e1
    split at e1
    · cases e1; cases r; rfl
    · cases e1
def asSs : List D → Option (List Str)
  | [] => some []
  | .str x :: xs => (asSs xs).map fun bs => x :: bs
  | _ => none
theorem asSs_ok {K : PySem.W.Frag} {H : Hp} {O : Addr → Prop} : ∀ {vs : List V} {ds : List D} {bs : List Str}, Reps K H O vs ds → asSs ds = some bs → vs = bs.map V.str
  | _, _, _, .nil, e => by simp [asSs] at e; subst e; rfl
  | _, d :: _, _, .cons r t, e => by
    cases d with
    | str x =>
      simp only [asSs, Option.map_eq_some_iff] at e
      obtain ⟨bs, e2, e3⟩ := e
      subst e3
      have : _ := asSs_ok t e2
      subst this
      cases r; rfl
    | _ => simp [asSs] at e
def dAll : List D → Option D
  | [.lst xs] => (asBs xs).map fun bs => .bl (bs.all id)
  | _ => none
theorem c_all {K : PySem.W.Frag} : Cl1 K (rAll K) dAll := by
  intro H O vs ds Q dm rs q
  unfold dAll at q
  split at q
  · rename_i xs
    obtain ⟨v, rfl, r⟩ := rs.one
    obtain ⟨a, us, rfl, h, z, r2⟩ := r.lst
    cases e : asBs xs with
    | none => rw [e] at q; exact q.elim
    | some bs =>
      rw [e] at q
      have := asBs_ok r2 e
      subst this
      exact ⟨a, bs, rfl, h, q _ H (Same.refl H) (.bl _)⟩
  · exact q.elim
def dAny : List D → Option D
  | [.lst xs] => (asBs xs).map fun bs => .bl (bs.any id)
  | _ => none
theorem c_any {K : PySem.W.Frag} : Cl1 K (rAny K) dAny := by
  intro H O vs ds Q dm rs q
  unfold dAny at q
  split at q
  · rename_i xs
    obtain ⟨v, rfl, r⟩ := rs.one
    obtain ⟨a, us, rfl, h, z, r2⟩ := r.lst
    cases e : asBs xs with
    | none => rw [e] at q; exact q.elim
    | some bs =>
      rw [e] at q
      have := asBs_ok r2 e
      subst this
      exact ⟨a, bs, rfl, h, q _ H (Same.refl H) (.bl _)⟩
  · exact q.elim
def dSum : List D → Option D
  | [.lst xs] => (asIs xs).map fun bs => .int bs.sum
  | _ => none
theorem c_sum {K : PySem.W.Frag} : Cl1 K (rSum K) dSum := by
  intro H O vs ds Q dm rs q
  unfold dSum at q
  split at q
  · rename_i xs
    obtain ⟨v, rfl, r⟩ := rs.one
    obtain ⟨a, us, rfl, h, z, r2⟩ := r.lst
    cases e : asIs xs with
    | none => rw [e] at q; exact q.elim
    | some bs =>
      rw [e] at q
      have := asIs_ok r2 e
      subst this
      exact ⟨a, bs, rfl, h, q _ H (Same.refl H) (.int _)⟩
  · exact q.elim
/-! ### ''.join -/
def dJoin : D → D → Option D
  | .str a, .lst xs => (asSs xs).bind fun ys => if (ys.map (·.length)).sum + ys.length * a.length ≤ 16777216 then some (.str (Txt.join a ys)) else none
  | _, _ => none
def rJoin (K : PySem.W.Frag) : V → List V → Hp → VK → Prop := fun x xs H Q => ∃ a p, ∃ ys : List Str, x = .str a ∧ xs = [.ref p] ∧ (SqL K H p (ys.map V.str) ∨ SqT K H p (ys.map V.str)) ∧
    (ys.map (·.length)).sum + ys.length * a.length ≤ 16777216 ∧ Q (.str (Txt.join a ys)) H
theorem m_join {K : PySem.W.Frag} : Mt1 K (rJoin K) dJoin := by
  intro H O x y dx dy Q dm rx ry q
  unfold dJoin at q
  split at q
  · rename_i a xs
    obtain ⟨p, us, rfl, h, z, r2⟩ := ry.lst
    cases e : asSs xs with
    | none => rw [e] at q; exact q.elim
    | some ys =>
      rw [e] at q
      have q' : VP K H O Q (if (ys.map (·.length)).sum + ys.length * a.length ≤ 16777216 then some (.str (Txt.join a ys)) else none) := q
      have := asSs_ok r2 e
      subst this
      by_cases c : (ys.map (·.length)).sum + ys.length * a.length ≤ 16777216
      · rw [if_pos c] at q'
        exact ⟨a, p, ys, rx.str, rfl, .inl h, c, q' _ H (Same.refl H) (.str _)⟩
      · rw [if_neg c] at q'; exact q'.elim
  · exact q.elim
/-! ### isinstance of built-in types -/
def tyName : D → Option String
  | .non => some "NoneType"
  | .bl _ => some "bool"
  | .int _ => some "int"
  | .str _ => some "str"
  | .tup _ => some "tuple"
  | .lst _ => some "list"
  | .kl _ => some "list"
  | _ => none
def isi (t n : String) : Bool := t == n || (t == "bool" && n == "int")
def dIsi : List D → Option D
  | [x, .ty n] => (tyName x).bind fun t => if n = "int" ∨ n = "bool" ∨ n = "str" ∨ n = "tuple" ∨ n = "list" then some (.bl (isi t n)) else none
  | _ => none
theorem kit_isi {t n : String} (ht : t = "NoneType" ∨ t = "bool" ∨ t = "int" ∨ t = "str" ∨ t = "tuple" ∨ t = "list") (hn : n = "int" ∨ n = "bool" ∨ n = "str" ∨ n = "tuple" ∨ n = "list") : kitB t n = some (isi t n) := by
  rcases ht with rfl | rfl | rfl | rfl | rfl | rfl <;> rcases hn with rfl | rfl | rfl | rfl | rfl <;> decide +kernel
theorem tyName_ok {K : PySem.W.Frag} {H : Hp} {O : Addr → Prop} {v : V} {d : D} {t : String} (r : RepB K H O v d) (e : tyName d = some t) :
    TyX K H v (.type t) ∧ (t = "NoneType" ∨ t = "bool" ∨ t = "int" ∨ t = "str" ∨ t = "tuple" ∨ t = "list") := by
  unfold tyName at e
  split at e <;> cases e
  · rw [r.non]; exact ⟨.base .non, by simp⟩
  · rw [r.bl]; exact ⟨.base (.bl _), by simp⟩
  · rw [r.int]; exact ⟨.base (.int _), by simp⟩
  · rw [r.str]; exact ⟨.base (.str _), by simp⟩
  · obtain ⟨a, us, rfl, h, z, r2⟩ := r.tup
    refine ⟨?_, by simp⟩
    rcases h with (h | ⟨o, h⟩) | ⟨o, its, n, h1, h2, _⟩
    · exact .base (.tup h)
    · exact .fTuple h
    · exact .kTuple h1 h2
  · obtain ⟨a, us, rfl, h, z, r2⟩ := r.lst
    refine ⟨?_, by simp⟩
    rcases h with (h | ⟨o, h⟩) | ⟨o, its, n, h1, h2, _⟩
    · exact .base (.lst h)
    · exact .base (.frz h)
    · exact .kList h1 h2
  · obtain ⟨a, us, rfl, h, z, r2⟩ := r.kl
    refine ⟨?_, by simp⟩
    rcases h with (h | ⟨o, h⟩) | ⟨o, its, n, h1, h2, _⟩
    · exact .base (.lst h)
    · exact .base (.frz h)
    · exact .kList h1 h2
theorem c_isi {K : PySem.W.Frag} : Cl1 K (rIsi K) dIsi := by
  intro H O vs ds Q dm rs q
  unfold dIsi at q
  split at q
  · rename_i x n
    obtain ⟨v, u, rfl, r, r2⟩ := rs.two
    cases e : tyName x with
    | none => rw [e] at q; exact q.elim
    | some t =>
      rw [e] at q
      have q' : VP K H O Q (if n = "int" ∨ n = "bool" ∨ n = "str" ∨ n = "tuple" ∨ n = "list" then some (.bl (isi t n)) else none) := q
      by_cases c : n = "int" ∨ n = "bool" ∨ n = "str" ∨ n = "tuple" ∨ n = "list"
      · rw [if_pos c] at q'
        obtain ⟨h1, h2⟩ := tyName_ok r e
        exact ⟨v, u, _, _, _, rfl, by rw [r2.ty]; exact .ty n, h1, kit_ty (kit_isi h2 c), q' _ H (Same.refl H) (.bl _)⟩
      · rw [if_neg c] at q'; exact q'.elim
  · exact q.elim
end PP

namespace PP
open PySem PySem.Spec PyProof.Rows L2
open Res (ok exc bad)
/-! ### several except clauses, with names or without -/
/-- behind a clause's suite its name is gone -/
def goneD (D : Ends) (i : Nat) : Ends := { nx := fun σ' H' => D.nx (σ'.set i none) H', rt := D.rt, bk := fun σ' H' => D.bk (σ'.set i none) H', ct := fun σ' H' => D.ct (σ'.set i none) H' }
def wAll (K : PySem.W.Frag) (Wout : WX) (D : Ends) : List (Value × Option Nat × (Addr → Value → Option Addr → TS)) → WX
  | [] => Wout
  | (c, none, ts) :: r => fun cls d σ H => ∃ b, PySem.W.exmOne K cls c = some b ∧ (b = true → ∀ a, H a = none → ts a cls d D σ H) ∧ (b = false → wAll K Wout D r cls d σ H)
  | (c, some i, ts) :: r => fun cls d σ H => ∃ b, PySem.W.exmOne K cls c = some b ∧ (b = true → ∀ a, H a = none → ts a cls d (goneD D i) (σ.set i (some (.ref a))) H) ∧ (b = false → wAll K Wout D r cls d σ H)
inductive HdsA (X : Cx) : List ExceptHandler → List (Value × Option Nat × (Addr → Value → Option Addr → TS)) → Prop
  | nil : HdsA X [] []
  | one {x : Str} {c : Value} {ts : Addr → Value → Option Addr → TS} {b₀ : Stmt} {suite : List Stmt} {np pos' : Pos} {hds : List ExceptHandler} {l : List (Value × Option Nat × (Addr → Value → Option Addr → TS))} (hc : Names X x c)
      (hsu : ∀ (a : Addr) (oe : Obj) (cls : Value) (d : Option Addr) (pn : List (Addr × Obj)), Zc cls d oe → (∃ vs, oe.data = .fields vs) → PSs (X.suite a ((a, oe) :: pn)) (b₀ :: suite) (ts a cls d)) (r : HdsA X hds l) :
      HdsA X (.ExceptHandler (some (.Name x np)) none (b₀ :: suite) pos' :: hds) ((c, none, ts) :: l)
  | as {x n : Str} {i : Nat} {c : Value} {ts : Addr → Value → Option Addr → TS} {b₀ : Stmt} {suite : List Stmt} {np pos' : Pos} {hds : List ExceptHandler} {l : List (Value × Option Nat × (Addr → Value → Option Addr → TS))} (hc : Names X x c) (hN : X.N.Nodup) (hi : X.N[i]? = some n) (hln : X.env.kindOf n = some .local)
      (hsu : ∀ (a : Addr) (oe : Obj) (cls : Value) (d : Option Addr) (pn : List (Addr × Obj)), Zc cls d oe → (∃ vs, oe.data = .fields vs) → PSs (X.suite a ((a, oe) :: pn)) (b₀ :: suite) (ts a cls d)) (r : HdsA X hds l) :
      HdsA X (.ExceptHandler (some (.Name x np)) (some n) (b₀ :: suite) pos' :: hds) ((c, some i, ts) :: l)
section
variable {X : Cx} {body : List Stmt} {h₀ : ExceptHandler} {hds : List ExceptHandler} {l : List (Value × Option Nat × (Addr → Value → Option Addr → TS))} {pos : Pos} {tb : WX → TS} {Wout : WX}
theorem ps_try_all (hs : X.stack = X.env :: X.outer) (hf : X.env.frame = some X.env.locals) (tk : Takes X Wout)
    (hb : ∀ (W : WX) (pn : List (Addr × Obj)) (xe : Value → Shared → Prop), Takes (X.tr pn xe) W → PassesOwn (model X.prog X.w) X.A X.env xe → PSs (X.tr pn xe) body (tb W))
    (hh : HdsA X (h₀ :: hds) l) : PS X (.Try body (h₀ :: hds) [] [] pos) (fun D σ H => tb (wAll X.K Wout D l) D σ H) := by
  refine ⟨fun pins s σ H D I h => ?_⟩
  have ok := I.ok
  have hfr : X.A.frames = some (X.env :: X.outer) := by rw [ok.frames, hs]
  refine wpAny_Try_except ?_
  refine wpAny_mono ((hb (wAll X.K Wout D l) (X.pn ++ pins) (fun e s₁ => wpAny (model X.prog X.w) X.A (noteFrame e X.env) (fun _ s₂ => wpAny (model X.prog X.w) X.A (setFlight e none) (fun _ s₃ =>
    wpAny (model X.prog X.w) X.A (handleBy e X.env (h₀ :: hds)) (SP X pins D) X.xe s₃) X.xe s₂) X.xe s₁) (fun u s' xx => ?_) PassesOwn.looking).run [] s σ H D (I.toTry _) h) (fun f s1 hsp => ?_) (fun e s1 he => he)
  · -- the catch
    obtain ⟨a, B, sI, pins', σ', H', cls, d, rfl, J', nb, up, sky, na, os, ag, w⟩ := xx
    have J : Inv X pins σ' H' sI := J'.ofTry ok
    have sky' : Sky B (X.env :: X.outer) a (Zc cls d) X.env.locals s'.heap := by rw [← hs]; exact sky
    show wpAny (model X.prog X.w) X.A (noteFrame (.ref a) X.env) _ _ _
    refine Sky.land Zc.steady hfr hf sky' fun h3 fl3 up3 => ?_
    have J3 : Inv X pins σ' H' { s' with heap := h3 } := J.landed nb fl3.1 (up.trans up3) os ag
    obtain ⟨oe3, vs3, he3, hz3, hd3⟩ := fl3.there
    have notFr : ∀ {h : Heap} {o : Obj} {vs : Array Value}, h.FunFrames B (X.env :: X.outer) → h.get? a = some o → o.data = .fields vs → a ∉ frs (X.env :: X.outer) := fun {h o vs} ff e dd hm => by
      obtain ⟨_, o', e', hnf⟩ := ff.mem hm
      rw [e] at e'; cases e'
      exact hnf _ dd
    have nfr := notFr fl3.2.2.1 he3 hd3
    have nL : a ≠ X.env.locals := fun z => nfr (List.mem_filterMap.mpr ⟨X.env, List.mem_cons_self, by rw [hf, z]⟩)
    have nF : a ∉ X.fs := fun hm => by
      obtain ⟨e, he, q⟩ := List.mem_filterMap.mp hm
      exact nfr (List.mem_filterMap.mpr ⟨e, List.mem_cons_of_mem _ he, q⟩)
    have S3 := J3.suite he3 hd3 na nL nF
    have LT : PySem.W.Looks (model X.prog X.w) h3 (typeOf (.ref a)) cls := fun A Q E s k q => wpAny_typeOf_ref (k _ _ he3) (by rw [hz3.1]; exact q)
    have test : ∀ {x : Str} {c : Value} {np : Pos} {Q : Value → Shared → Prop} {E : Value → Shared → Prop}, Names X x c → Q c { s' with heap := h3 } → wpAny (model X.prog X.w) (X.A.mark (some (.ref a))) (eval (.Name x np) X.env) Q E { s' with heap := h3 } := fun {x c np Q E} hc q => by
      obtain ⟨hg, hdbg, hm | ⟨hm, hv, hnn⟩⟩ := hc
      · exact ld_glob (X := X.suite a ((a, oe3) :: (X.pn ++ pins))) S3 hg hm q hdbg
      · exact ld_blt (X := X.suite a ((a, oe3) :: (X.pn ++ pins))) S3 hg hm hv q hnn hdbg
    have go : ∀ {hds' : List ExceptHandler} {l' : List (Value × Option Nat × (Addr → Value → Option Addr → TS))}, HdsA X hds' l' → wAll X.K Wout D l' cls d σ' H' →
        wpAny (model X.prog X.w) X.A (handleBy (.ref a) X.env hds') (SP X pins D) X.xe { s' with heap := h3 } := by
      intro hds' l' hk
      induction hk with
      | nil =>
        intro w
        refine wpAny_handleBy_nil ?_
        obtain ⟨k1, k2, k3, oe, vs, T, oT, ts', he, hz, hd, h1, hr⟩ := id fl3
        unfold PySem.passOn
        refine wpAny_bind (wpAny_field he hd h1 ?_)
        rw [if_neg (show ¬ ((Value.ref T == Value.none) = true) from by simp)]
        have fin : wpAny (model X.prog X.w) X.A (setFlight (.ref a) X.env.frame) (fun _ s4 => wpAny (model X.prog X.w) X.A (throw (.ref a) : Sem Flow) (SP X pins D) X.xe s4) X.xe { s' with heap := h3 } := by
          rw [hf]
          refine HandSPX.setFlight_upZ fl3 fun h4 hh4 up4 => wpAny_throw (tk _ _ ?_)
          exact ⟨a, B, sI, pins, σ', H', cls, d, rfl, J, nb, (up.trans up3).trans up4, .inr (.inr (by rw [hs]; exact hh4)), na, os, ag, w⟩
        first
          | exact wpAny_bind (wpAny_pure (wpAny_bind fin))
          | exact wpAny_bind fin
      | @one x c ts b₀ suite np pos' hds2 l2 hc hsu r ih =>
        intro w
        obtain ⟨b, hb1, hyes, hno⟩ := w
        refine wpAny_handleBy_cons (codeAny_handlers_test ?_) (by intro q; cases q)
        have LM := PySem.W.exm_one (M := model X.prog X.w) (J3.kIn) LT hb1
        refine test hc (LM.here ?_)
        cases b with
        | true =>
          refine codeAny_handlers_suite ?_
          refine HandSPX.lands_againZ fl3 fun h4 fl4 up4 => ?_
          have J4 : Inv X pins σ' H' { s' with heap := h4 } := J.landed nb fl4.1 ((up.trans up3).trans up4) os ag
          obtain ⟨oe4, vs4, he4, hz4, hd4⟩ := fl4.there
          have S4 := J4.suite he4 hd4 na nL nF
          refine wpAny_mono ((hsu a oe4 cls d (X.pn ++ pins) hz4 ⟨_, hd4⟩).run [] _ _ H' _ S4 (hyes rfl a na)) (fun f s6 hsp => ?_) (fun _ _ z => False.elim z)
          cases f with
          | next =>
            obtain ⟨σ6, H6, S6, q6⟩ := hsp
            exact ⟨_, _, S6.unsuite ok, q6⟩
          | brk =>
            obtain ⟨σ6, H6, S6, q6⟩ := hsp
            exact ⟨_, _, S6.unsuite ok, q6⟩
          | cont =>
            obtain ⟨σ6, H6, S6, q6⟩ := hsp
            exact ⟨_, _, S6.unsuite ok, q6⟩
          | ret u =>
            obtain ⟨v6, σ6, H6, S6, r6, q6⟩ := hsp
            exact ⟨_, _, _, S6.unsuite ok, r6, q6⟩
        | false =>
          show wpAny _ X.A (handleBy (.ref a) X.env hds2) _ _ _
          exact ih (hno rfl)
      | @as x n i c ts b₀ suite np pos' hds2 l2 hc hN hi hln hsu r ih =>
        intro w
        obtain ⟨b, hb1, hyes, hno⟩ := w
        refine wpAny_handleBy_cons (codeAny_handlers_test ?_) (by intro q; cases q)
        have LM := PySem.W.exm_one (M := model X.prog X.w) (J3.kIn) LT hb1
        refine test hc (LM.here ?_)
        cases b with
        | true =>
          refine codeAny_handlers_suite_as ?_
          refine HandSPX.lands_againZ fl3 fun h4 fl4 up4 => ?_
          have J4 : Inv X pins σ' H' { s' with heap := h4 } := J.landed nb fl4.1 ((up.trans up3).trans up4) os ag
          obtain ⟨oe4, vs4, he4, hz4, hd4⟩ := fl4.there
          have S4 := J4.suite he4 hd4 na nL nF
          refine store_ok (X := X.suite a ((a, oe4) :: (X.pn ++ pins))) (v := .ref a) S4 hN hi (.inl hln) rfl (fun s5 S5 => ?_) (.inr hln)
          refine wpAny_mono ((hsu a oe4 cls d (X.pn ++ pins) hz4 ⟨_, hd4⟩).run [] s5 _ H' _ S5 (hyes rfl a na)) (fun f s6 hsp => ?_) (fun _ _ z => False.elim z)
          have end_ : ∀ {σ6 : L2.St} {H6 : Hp} {Q : Shared → Prop}, Inv (X.suite a ((a, oe4) :: (X.pn ++ pins))) [] σ6 H6 s6 → (∀ s7, Inv X pins (σ6.set i none) H6 s7 → Q s7) →
              wpAny (model X.prog X.w) X.A (do bindName X.env n .none; unbindBehindTheSuite X.env n pos') (fun _ s7 => Q s7) X.xe s6 := fun {σ6 H6 Q} S6 hq => gone_ok (S6.unsuite ok) hN hi hln hq
          cases f with
          | next =>
            obtain ⟨σ6, H6, S6, q6⟩ := hsp
            exact end_ S6 fun s7 J7 => ⟨_, _, J7, q6⟩
          | brk =>
            obtain ⟨σ6, H6, S6, q6⟩ := hsp
            exact end_ S6 fun s7 J7 => ⟨_, _, J7, q6⟩
          | cont =>
            obtain ⟨σ6, H6, S6, q6⟩ := hsp
            exact end_ S6 fun s7 J7 => ⟨_, _, J7, q6⟩
          | ret u =>
            obtain ⟨v6, σ6, H6, S6, r6, q6⟩ := hsp
            exact end_ S6 fun s7 J7 => ⟨_, _, _, J7, r6, q6⟩
        | false =>
          show wpAny _ X.A (handleBy (.ref a) X.env hds2) _ _ _
          exact ih (hno rfl)
    exact go hh w
  · cases f with
    | next =>
      obtain ⟨σ', H', J', q⟩ := hsp
      exact wpAny_execs_nil ⟨σ', H', J'.ofTry ok, q⟩
    | brk =>
      obtain ⟨σ', H', J', q⟩ := hsp
      exact ⟨σ', H', J'.ofTry ok, q⟩
    | cont =>
      obtain ⟨σ', H', J', q⟩ := hsp
      exact ⟨σ', H', J'.ofTry ok, q⟩
    | ret u =>
      obtain ⟨v, σ', H', J', r, q⟩ := hsp
      exact ⟨v, σ', H', J'.ofTry ok, r, q⟩
end

/-! ### the same by what they do -/
/-- a clause: the class that it names, its name's slot, what its suite does when an error of the class c is met -/
structure Cl where
  cls : Str
  slot : Option Nat
  su : Str → Sls → Fl
def clIn (i : Option Nat) (ρ : Sls) : Sls := match i with
  | some i => ρ.set i .no
  | none => ρ
def clOut (i : Option Nat) (fl : Fl) : Fl := match i, fl with
  | some i, .nx ρ => .nx (ρ.set i .no)
  | some i, .bk ρ => .bk (ρ.set i .no)
  | some i, .ct ρ => .ct (ρ.set i .no)
  | some _, .rt d => .rt d
  | none, .nx ρ => .nx ρ
  | none, .bk ρ => .bk ρ
  | none, .ct ρ => .ct ρ
  | none, .rt d => .rt d
  | _, _ => .bad
def hdl (sub : Str → Str → Bool) : List Cl → Str → Sls → Fl
  | [], c, ρ => .exc c ρ
  | k :: r, c, ρ => if sub c k.cls then clOut k.slot (k.su c (clIn k.slot ρ)) else hdl sub r c ρ
def sTry (cs : List Str) (sub : Str → Str → Bool) (body : Sls → Fl) (hs : List Cl) : Sls → Fl := fun ρ => match body ρ with
  | .exc c ρ' => if c ∈ cs then hdl sub hs c ρ' else .bad
  | fl => fl
/-- what the written part says of a class that an except clause names -/
def ExmOk (K : PySem.W.Frag) (cs : List Str) (sub : Str → Str → Bool) (A : Str) : Prop := ∀ c ∈ cs, PySem.W.exmOne K (.ref (He.ga K c)) (.ref (He.ga K A)) = some (sub c A)
/-- a suite's reading: the error's class, where it stands -/
def tSu (K : PySem.W.Frag) (cs : List Str) (i : Option Nat) (su : Str → Sls → Fl) : Addr → Value → Option Addr → TS := fun a cls d D σ H =>
  ∃ c, cls = .ref (He.ga K c) ∧ d = none ∧ c ∈ cs ∧ (∀ j, i = some j → j < σ.length → σ[j]? = some (some (.ref a))) ∧ tSS K E0' (su c) D σ H
inductive HdsS (X : Cx) (cs : List Str) (sub : Str → Str → Bool) : List ExceptHandler → List Cl → Prop
  | nil : HdsS X cs sub [] []
  | one {A : Str} {su : Str → Sls → Fl} {b₀ : Stmt} {suite : List Stmt} {np pos' : Pos} {hds : List ExceptHandler} {l : List Cl} (hc : Names X A (.ref (He.ga X.K A))) (hx : ExmOk X.K cs sub A)
      (hsu : ∀ (a : Addr) (oe : Obj) (cls : Value) (d : Option Addr) (pn : List (Addr × Obj)), Zc cls d oe → (∃ vs, oe.data = .fields vs) → PSs (X.suite a ((a, oe) :: pn)) (b₀ :: suite) (tSu X.K cs none su a cls d)) (r : HdsS X cs sub hds l) :
      HdsS X cs sub (.ExceptHandler (some (.Name A np)) none (b₀ :: suite) pos' :: hds) (⟨A, none, su⟩ :: l)
  | as {A n : Str} {i : Nat} {su : Str → Sls → Fl} {b₀ : Stmt} {suite : List Stmt} {np pos' : Pos} {hds : List ExceptHandler} {l : List Cl} (hc : Names X A (.ref (He.ga X.K A))) (hx : ExmOk X.K cs sub A) (hN : X.N.Nodup) (hi : X.N[i]? = some n) (hln : X.env.kindOf n = some .local)
      (hsu : ∀ (a : Addr) (oe : Obj) (cls : Value) (d : Option Addr) (pn : List (Addr × Obj)), Zc cls d oe → (∃ vs, oe.data = .fields vs) → PSs (X.suite a ((a, oe) :: pn)) (b₀ :: suite) (tSu X.K cs (some i) su a cls d)) (r : HdsS X cs sub hds l) :
      HdsS X cs sub (.ExceptHandler (some (.Name A np)) (some n) (b₀ :: suite) pos' :: hds) (⟨A, some i, su⟩ :: l)
def toA (K : PySem.W.Frag) (cs : List Str) (k : Cl) : Value × Option Nat × (Addr → Value → Option Addr → TS) := (.ref (He.ga K k.cls), k.slot, tSu K cs k.slot k.su)
theorem HdsS.a {X : Cx} {cs : List Str} {sub : Str → Str → Bool} {hds : List ExceptHandler} {l : List Cl} (h : HdsS X cs sub hds l) : HdsA X hds (l.map (toA X.K cs)) := by
  induction h with
  | nil => exact .nil
  | one hc hx hsu r ih => exact .one hc hsu ih
  | as hc hx hN hi hln hsu r ih => exact .as hc hN hi hln hsu ih
theorem HdsS.ex {X : Cx} {cs : List Str} {sub : Str → Str → Bool} {hds : List ExceptHandler} {l : List Cl} (h : HdsS X cs sub hds l) : ∀ k ∈ l, ExmOk X.K cs sub k.cls := by
  induction h with
  | nil => intro k hk; simp at hk
  | one hc hx hsu r ih => intro k hk; rcases List.mem_cons.mp hk with e | hk; (subst e; exact hx); exact ih k hk
  | as hc hx hN hi hln hsu r ih => intro k hk; rcases List.mem_cons.mp hk with e | hk; (subst e; exact hx); exact ih k hk
theorem Sta.no {K : PySem.W.Frag} {H : Hp} {O : Addr → Prop} {σ : L2.St} {ρ : Sls} {F : List Addr} (s : Sta K H O σ ρ F) (i : Nat) (x : Option V) : ∃ F', Sta K H O (σ.set i x) (ρ.set i .no) F' ∧ ∀ a ∈ F', a ∈ F :=
  let ⟨F', h1, h2⟩ := s.st.setN i x; ⟨F', ⟨h1, s.dom⟩, h2⟩
section
variable {X : Cx} {E : EX} {cs : List Str} {sub : Str → Str → Bool} {body : List Stmt} {h₀ : ExceptHandler} {hds : List ExceptHandler} {l : List Cl} {pos : Pos} {s1 : Sls → Fl}
theorem hdl_reads {D' : Ends} {c : Str} {H' : Hp} {O' : Addr → Prop} {F' : List Addr} {σ' : L2.St} {ρ' : Sls} (hc : c ∈ cs) : ∀ {l : List Cl}, (∀ k ∈ l, ExmOk X.K cs sub k.cls) → Sta X.K H' O' σ' ρ' F' → FP X.K E D' H' O' F' (hdl sub l c ρ') →
    wAll X.K (fun cls d σ H => E σ cls d H) D' (l.map (toA X.K cs)) (.ref (He.ga X.K c)) none σ' H'
  | [], _, s, p => p σ' H' O' F' s .refl
  | ⟨A, none, su⟩ :: l, hx, s, p => by
    refine ⟨sub c A, hx ⟨A, none, su⟩ (by simp) c hc, fun e a na => ?_, fun e => hdl_reads hc (fun k hk => hx k (by simp [hk])) s ?_⟩
    · refine ⟨c, rfl, rfl, hc, fun j z => (nomatch z), ρ', O', F', s, ?_⟩
      have p' : FP X.K E D' H' O' F' (if sub c A then clOut none (su c (clIn none ρ')) else hdl sub l c ρ') := p
      rw [if_pos e] at p'
      have p2 : FP X.K E D' H' O' F' (clOut none (su c ρ')) := p'
      show FP X.K E0' D' H' O' F' (su c ρ')
      cases q : su c ρ' with
      | nx ρ2 => rw [q] at p2; exact p2
      | rt d => rw [q] at p2; exact p2
      | bk ρ2 => rw [q] at p2; exact p2
      | ct ρ2 => rw [q] at p2; exact p2
      | exc c2 ρ2 => rw [q] at p2; exact p2.elim
      | bad => rw [q] at p2; exact p2.elim
    · have p' : FP X.K E D' H' O' F' (if sub c A then clOut none (su c (clIn none ρ')) else hdl sub l c ρ') := p
      rw [if_neg (by rw [e]; exact Bool.false_ne_true)] at p'
      exact p'
  | ⟨A, some i, su⟩ :: l, hx, s, p => by
    refine ⟨sub c A, hx ⟨A, some i, su⟩ (by simp) c hc, fun e a na => ?_, fun e => hdl_reads hc (fun k hk => hx k (by simp [hk])) s ?_⟩
    · obtain ⟨F2, s2, sub2⟩ := s.no i (some (.ref a))
      refine ⟨c, rfl, rfl, hc, fun j z hj => by cases z; rw [List.length_set] at hj; exact List.getElem?_set_self hj, ρ'.set i .no, O', F2, s2, ?_⟩
      have p' : FP X.K E D' H' O' F' (if sub c A then clOut (some i) (su c (clIn (some i) ρ')) else hdl sub l c ρ') := p
      rw [if_pos e] at p'
      have p2 : FP X.K E D' H' O' F' (clOut (some i) (su c (ρ'.set i .no))) := p'
      have tr : Tr H' O' F' H' O' F2 := .sub sub2 (Same.refl _)
      show FP X.K E0' (goneD D' i) H' O' F2 (su c (ρ'.set i .no))
      cases q : su c (ρ'.set i .no) with
      | nx ρ2 =>
        rw [q] at p2
        intro σ3 H3 O3 F3 s3 t3
        obtain ⟨F4, s4, sub4⟩ := s3.no i none
        exact p2 _ H3 O3 F4 s4 ((tr.trans s t3).trans s (.sub sub4 (Same.refl _)))
      | rt d => rw [q] at p2; exact fun v H3 O3 F3 r3 t3 => p2 v H3 O3 F3 r3 (tr.trans s t3)
      | bk ρ2 =>
        rw [q] at p2
        intro σ3 H3 O3 F3 s3 t3
        obtain ⟨F4, s4, sub4⟩ := s3.no i none
        exact p2 _ H3 O3 F4 s4 ((tr.trans s t3).trans s (.sub sub4 (Same.refl _)))
      | ct ρ2 =>
        rw [q] at p2
        intro σ3 H3 O3 F3 s3 t3
        obtain ⟨F4, s4, sub4⟩ := s3.no i none
        exact p2 _ H3 O3 F4 s4 ((tr.trans s t3).trans s (.sub sub4 (Same.refl _)))
      | exc c2 ρ2 => rw [q] at p2; exact p2.elim
      | bad => rw [q] at p2; exact p2.elim
    · have p' : FP X.K E D' H' O' F' (if sub c A then clOut (some i) (su c (clIn (some i) ρ')) else hdl sub l c ρ') := p
      rw [if_neg (by rw [e]; exact Bool.false_ne_true)] at p'
      exact p'
theorem ss_try (hs : X.stack = X.env :: X.outer) (hf : X.env.frame = some X.env.locals) (tk : Takes X fun cls d σ H => E σ cls d H)
    (hb : ∀ (W : WX) (pn : List (Addr × Obj)) (xe : Value → Shared → Prop), Takes (X.tr pn xe) W → PassesOwn (model X.prog X.w) X.A X.env xe → SSs (X.tr pn xe) (fun σ cls d H => W cls d σ H) body s1)
    (hh : HdsS X cs sub (h₀ :: hds) l) : SS X E (.Try body (h₀ :: hds) [] [] pos) (sTry cs sub s1 l) :=
  ps_imp (ps_try_all (tb := fun W => tSS X.K (fun σ cls d H => W cls d σ H) s1) hs hf tk hb hh.a) fun D σ H ⟨ρ, O, F, s, p⟩ => ⟨ρ, O, F, s, by
    unfold sTry at p
    cases q : s1 ρ with
    | nx ρ' => rw [q] at p; exact p
    | rt d => rw [q] at p; exact p
    | bk ρ' => rw [q] at p; exact p
    | ct ρ' => rw [q] at p; exact p
    | bad => rw [q] at p; exact p
    | exc c ρ' =>
      rw [q] at p
      intro σ' H' O' F' s' t
      have p' : FP X.K E D H O F (if c ∈ cs then hdl sub l c ρ' else .bad) := p
      by_cases hc : c ∈ cs
      · rw [if_pos hc] at p'
        exact hdl_reads hc hh.ex s' (FP.later s t p')
      · rw [if_neg hc] at p'; exact p'.elim⟩
end
/-! ### suites: return of what isinstance(e, C) tells -/
/-- what is known of the error within the suite -/
abbrev At (j : Nat) (a : Addr) (σ : L2.St) : Prop := σ[j]? = some (some (.ref a))
def tEX (K : PySem.W.Frag) (j : Nat) (a : Addr) (f : Sls → Res D) : TE := fun σ H Q => At j a σ ∧ tEF K E0' f σ H Q
def tTX (K : PySem.W.Frag) (j : Nat) (a : Addr) (b : Bool) : TT := fun σ H Q => At j a σ ∧ Q b H
/-- what the written part says of isinstance(e, C), e of the class c -/
def IsiOk (K : PySem.W.Frag) (cs : List Str) (sub : Str → Str → Bool) (C : Str) : Prop := ∀ c ∈ cs, ExcC K (He.ga K c) ∧ PySem.W.kitOne K (.ref (He.ga K c)) (.ref (He.ga K C)) = some (sub c C)
section
variable {X : Cx} {a : Addr} {oe : Obj} {pn : List (Addr × Obj)} {cs : List Str} {sub : Str → Str → Bool} {c C x : Str} {j : Nat} {p1 p2 p3 pos : Pos} {A B : Expr} {f g : Sls → Res D}
theorem px_isE (hk : IsiOk X.K cs sub C) (hc : c ∈ cs) (hz : Zc (.ref (He.ga X.K c)) none oe) (hf : ∃ vs, oe.data = .fields vs) (hm : X.mg "isinstance" = none) (hC : X.mg C = some (.ref (He.ga X.K C))) (hg : Gl X "isinstance" := by rfl) (hgC : Gl X C := by rfl)
    (hN : X.N[j]? = some x := by rfl) (hv : Vis X.env.scope x := by first | exact Or.inl rfl | exact Or.inr (Or.inl rfl) | exact Or.inr (Or.inr rfl)) (hd : (x == ("__debug__" : Str)) = false := by decide) (hcd : (x == ("__classdict__" : Str)) = false := by decide) (hdC : (C == ("__debug__" : Str)) = false := by decide)
    (h1 : starEach [.Name x p2, .Name C p3] X.env = (false, eval (.Name x p2) X.env) :: starEach [.Name C p3] X.env := by rfl) (h2 : starEach [.Name C p3] X.env = (false, eval (.Name C p3) X.env) :: starEach [] X.env := by rfl) (hpl : (backTo pos (starEach [.Name C p3] X.env)).any (·.1) = false := by rfl) :
    PE (X.suite a ((a, oe) :: pn)) (.Call (.Name "isinstance" p1) [.Name x p2, .Name C p3] [] pos) (fun σ H Q => At j a σ ∧ Q (.bl (sub c C)) H) := by
  refine pe_imp (pe_callB (X := X.suite a ((a, oe) :: pn)) (call_isE (hk c hc).1 hz hf) hg hm (by decide +kernel) (pa_cons (pe_var (i := j) hN hv hd hcd) (pa_cons (pe_glob (v := .ref (He.ga X.K C)) hgC hC rfl hdC) pa_nil h2) h1) (by decide) (by decide) h1 hpl) fun σ H Q ⟨e, q⟩ => ?_
  exact ⟨_, e, .ref (He.ga X.K C), .ref (He.ga X.K C), _, rfl, fun u r => r, (hk c hc).2, q⟩
theorem pt_isE (h : PE (X.suite a ((a, oe) :: pn)) A (fun σ H Q => At j a σ ∧ Q (.bl (sub c C)) H)) (he : ∀ whole, isTrue A X.env whole = (do let v ← whole; standAt A.pos; holding [v] (truthy v)) := by intro _; rfl) : PT (X.suite a ((a, oe) :: pn)) A (tTX X.K j a (sub c C)) :=
  pt_imp (pt_val h he) fun σ H Q ⟨e, q⟩ => ⟨e, _, rfl, q⟩
theorem px_of (h : EF (X.suite a ((a, oe) :: pn)) E0' A f) : PE (X.suite a ((a, oe) :: pn)) A (tEX X.K j a f) := pe_imp h fun σ H Q ⟨_, q⟩ => q
theorem px_val (h : PE (X.suite a ((a, oe) :: pn)) A (fun σ H Q => At j a σ ∧ Q (.bl (sub c C)) H)) : PE (X.suite a ((a, oe) :: pn)) A (tEX X.K j a (mC (.bl (sub c C)))) :=
  pe_imp h fun σ H Q ⟨e, ρ, O, F, s, p⟩ => ⟨e, p _ H (Same.refl H) (.bl _)⟩
theorem px_if {T : Expr} {b : Bool} (hc : PT (X.suite a ((a, oe) :: pn)) T (tTX X.K j a b)) (ha : PE (X.suite a ((a, oe) :: pn)) A (tEX X.K j a f)) (hb : PE (X.suite a ((a, oe) :: pn)) B (tEX X.K j a g)) :
    PE (X.suite a ((a, oe) :: pn)) (.IfExp T A B pos) (tEX X.K j a (if b then f else g)) :=
  pe_imp (pe_ifExp hc ha hb) fun σ H Q ⟨e, q⟩ => ⟨e, by
    cases b with
    | true => exact iteT ⟨e, q⟩
    | false => exact iteF ⟨e, q⟩⟩
theorem su_ret {i : Option Nat} {su : Str → Sls → Res D} {cls : Value} {d : Option Addr} (hi : ∀ σ : L2.St, (∀ k, i = some k → k < σ.length → σ[k]? = some (some (.ref a))) → σ.length = X.N.length → At j a σ)
    (h : ∀ c ∈ cs, cls = .ref (He.ga X.K c) → d = none → PE (X.suite a ((a, oe) :: pn)) A (tEX X.K j a (su c))) : PSs (X.suite a ((a, oe) :: pn)) [.Return (some A) pos] (tSu X.K cs i (fun c => sRet (su c)) a cls d) := by
  refine ⟨fun pins s σ H D I ⟨c, e1, e2, hc, e3, ρ, O, F, st, p⟩ => ?_⟩
  have hAt : At j a σ := hi σ e3 I.len
  refine (pss_one (ps_ret (h c hc e1 e2))).run pins s σ H D I ⟨hAt, ρ, O, F, st, (FP.po st p).imp fun x p1 v H1 e1 r1 => p1 v H1 O F r1 (.same e1)⟩
/-- .. where the error is not asked -/
theorem su_any {i : Option Nat} {su : Sls → Fl} {sts : List Stmt} {cls : Value} {d : Option Addr} (h : SSs (X.suite a ((a, oe) :: pn)) E0' sts su) : PSs (X.suite a ((a, oe) :: pn)) sts (tSu X.K cs i (fun _ => su) a cls d) :=
  pss_imp h fun D σ H ⟨c, _, _, _, _, q⟩ => q
end
end PP

namespace PP
open PySem PySem.Spec PyProof.Rows L2
open Res (ok exc bad)
/-! ### a table of the module's top: text keys -/
structure KTab (K : PySem.W.Frag) (w : World) (x : Str) (tbl : List (Str × D)) : Prop where
  kd : ∃ es n, KDict K w (He.ga K x) es n
  yes : ∀ z d, tbl.lookup z = some d → ∃ u v, PySem.W.nsIn K (He.ga K x) z = some (some u) ∧ RelV v u ∧ ∀ H O, Rep K H O v d
  no : ∀ z, tbl.lookup z = none → PySem.W.nsIn K (He.ga K x) z = some none
section
variable {X : Cx} {E : EX} {e : Expr} {f : Sls → Res D} {x : Str} {tbl : List (Str × D)} {pos p1 : Pos}
def mKIn (tbl : List (Str × D)) (f : Sls → Res D) : Sls → Res D := fun ρ => f ρ >>= fun d => match d with
  | .str z => ok (.bl (tbl.lookup z).isSome)
  | _ => bad
def mKNotIn (tbl : List (Str × D)) (f : Sls → Res D) : Sls → Res D := fun ρ => f ρ >>= fun d => match d with
  | .str z => ok (.bl (!(tbl.lookup z).isSome))
  | _ => bad
def mKGet (tbl : List (Str × D)) (f : Sls → Res D) : Sls → Res D := fun ρ => f ρ >>= fun d => match d with
  | .str z => ofO (tbl.lookup z)
  | _ => bad
theorem ktab_is {K : PySem.W.Frag} {w : World} (T : KTab K w x tbl) (z : Str) : ∃ r, PySem.W.nsIn K (He.ga K x) z = some r ∧ r.isSome = (tbl.lookup z).isSome := by
  cases q : tbl.lookup z with
  | none => exact ⟨none, T.no z q, rfl⟩
  | some d =>
    obtain ⟨u, v, h1, _⟩ := T.yes z d q
    exact ⟨some u, h1, rfl⟩
theorem ef_kin (T : KTab X.K X.w x tbl) (hm : X.mg x = some (.ref (He.ga X.K x))) (ha : EF X E e f) (hg : Gl X x := by rfl) (hd : (x == ("__debug__" : Str)) = false := by decide) (hb : behindInMarks .In (.Name x p1) = false := by rfl) : EF X E (.Compare e [.In] [.Name x p1] pos) (mKIn tbl f) := by
  obtain ⟨es, n, kd⟩ := T.kd
  exact pe_imp (pe_cmpR (op_in_kd kd) ha (pe_glob (v := .ref (He.ga X.K x)) hg hm rfl hd) hb) fun σ H Q ⟨ρ, O, F, s, p⟩ => ⟨ρ, O, F, s, p.bind.imp fun d p1 v H1 e1 r1 => by
    cases d with
    | str z =>
      cases r1
      obtain ⟨r, h1, h2⟩ := ktab_is T z
      exact ⟨z, r, rfl, rfl, h1, by rw [h2]; exact p1 _ H1 e1 (.bl _)⟩
    | _ => exact p1.elim⟩
theorem ef_knotin (T : KTab X.K X.w x tbl) (hm : X.mg x = some (.ref (He.ga X.K x))) (ha : EF X E e f) (hg : Gl X x := by rfl) (hd : (x == ("__debug__" : Str)) = false := by decide) (hb : behindInMarks .NotIn (.Name x p1) = false := by rfl) : EF X E (.Compare e [.NotIn] [.Name x p1] pos) (mKNotIn tbl f) := by
  obtain ⟨es, n, kd⟩ := T.kd
  exact pe_imp (pe_cmpR (op_notIn_kd kd) ha (pe_glob (v := .ref (He.ga X.K x)) hg hm rfl hd) hb) fun σ H Q ⟨ρ, O, F, s, p⟩ => ⟨ρ, O, F, s, p.bind.imp fun d p1 v H1 e1 r1 => by
    cases d with
    | str z =>
      cases r1
      obtain ⟨r, h1, h2⟩ := ktab_is T z
      exact ⟨z, r, rfl, rfl, h1, by rw [h2]; exact p1 _ H1 e1 (.bl _)⟩
    | _ => exact p1.elim⟩
theorem et_kin (T : KTab X.K X.w x tbl) (hm : X.mg x = some (.ref (He.ga X.K x))) (ha : EF X E e f) (hg : Gl X x := by rfl) (hd : (x == ("__debug__" : Str)) = false := by decide) (hb : behindInMarks .In (.Name x p1) = false := by rfl) : ET X E (.Compare e [.In] [.Name x p1] pos) (mT (mKIn tbl f)) := by
  obtain ⟨es, n, kd⟩ := T.kd
  exact pt_imp (pt_cmpR (op_in_kd kd) ha (pe_glob (v := .ref (He.ga X.K x)) hg hm rfl hd) hb) fun σ H Q ⟨ρ, O, F, s, p⟩ => ⟨ρ, O, F, s, by
    have p' : Po X.K E σ H (f ρ >>= fun d => (match d with
      | .str z => ok (.bl (tbl.lookup z).isSome)
      | _ => bad) >>= fun x => ofO (asB x)) fun b => ∀ H', Same H H' → Q b H' := by
      have p0 : Po X.K E σ H ((f ρ >>= fun d => match d with
        | .str z => ok (.bl (tbl.lookup z).isSome)
        | _ => bad) >>= fun x => ofO (asB x)) fun b => ∀ H', Same H H' → Q b H' := p
      rw [res_assoc] at p0
      exact p0
    refine p'.bind.imp fun d p1 v H1 e1 r1 => ?_
    cases d with
    | str z =>
      cases r1
      obtain ⟨r, h1, h2⟩ := ktab_is T z
      exact ⟨z, r, rfl, rfl, h1, _, rfl, by rw [h2]; exact p1 H1 e1⟩
    | _ => exact p1.elim⟩
theorem et_knotin (T : KTab X.K X.w x tbl) (hm : X.mg x = some (.ref (He.ga X.K x))) (ha : EF X E e f) (hg : Gl X x := by rfl) (hd : (x == ("__debug__" : Str)) = false := by decide) (hb : behindInMarks .NotIn (.Name x p1) = false := by rfl) : ET X E (.Compare e [.NotIn] [.Name x p1] pos) (mT (mKNotIn tbl f)) := by
  obtain ⟨es, n, kd⟩ := T.kd
  exact pt_imp (pt_cmpR (op_notIn_kd kd) ha (pe_glob (v := .ref (He.ga X.K x)) hg hm rfl hd) hb) fun σ H Q ⟨ρ, O, F, s, p⟩ => ⟨ρ, O, F, s, by
    have p' : Po X.K E σ H (f ρ >>= fun d => (match d with
      | .str z => ok (.bl (!(tbl.lookup z).isSome))
      | _ => bad) >>= fun x => ofO (asB x)) fun b => ∀ H', Same H H' → Q b H' := by
      have p0 : Po X.K E σ H ((f ρ >>= fun d => match d with
        | .str z => ok (.bl (!(tbl.lookup z).isSome))
        | _ => bad) >>= fun x => ofO (asB x)) fun b => ∀ H', Same H H' → Q b H' := p
      rw [res_assoc] at p0
      exact p0
    refine p'.bind.imp fun d p1 v H1 e1 r1 => ?_
    cases d with
    | str z =>
      cases r1
      obtain ⟨r, h1, h2⟩ := ktab_is T z
      exact ⟨z, r, rfl, rfl, h1, _, rfl, by rw [h2]; exact p1 H1 e1⟩
    | _ => exact p1.elim⟩
theorem ef_kget (T : KTab X.K X.w x tbl) (hm : X.mg x = some (.ref (He.ga X.K x))) (ha : EF X E e f) (hg : Gl X x := by rfl) (hd : (x == ("__debug__" : Str)) = false := by decide) (hs : PlainIx e := by exact fun _ _ => rfl) : EF X E (.Subscript (.Name x p1) e pos) (mKGet tbl f) := by
  obtain ⟨es, n, kd⟩ := T.kd
  exact pe_imp (pe_ix ix_kdict (pe_glob (v := .ref (He.ga X.K x)) hg hm rfl hd) ha hs) fun σ H Q ⟨ρ, O, F, s, p⟩ => ⟨ρ, O, F, s, p.bind.imp fun d p1 v H1 e1 r1 => by
    cases d with
    | str z =>
      cases r1
      have p1' : Po X.K E σ H (ofO (tbl.lookup z)) fun d => ∀ v H', Same H H' → Rep X.K H' O v d → Q v H' := p1
      cases q : tbl.lookup z with
      | none => rw [q] at p1'; exact p1'.elim
      | some d =>
        rw [q] at p1'
        obtain ⟨u, v, h1, h2, h3⟩ := T.yes z d q
        exact ⟨_, z, v, rfl, rfl, ⟨es, n, u, kd.at_, kd.lit, h1, h2⟩, p1' v H1 e1 (h3 H1 O)⟩
    | _ => exact p1.elim⟩
end
/-! ### {'a': .., ..}[e], the display read at once -/
def mPairs : List (Str × (Sls → Res D)) → Sls → Res (List (Str × D))
  | [], _ => ok []
  | (k, f) :: r, ρ => f ρ >>= fun d => mPairs r ρ >>= fun l => ok ((k, d) :: l)
/-- the last one counts -/
def lookLast (l : List (Str × D)) (z : Str) : Option D := l.reverse.lookup z
def mDispGet (l : List (Str × (Sls → Res D))) (f : Sls → Res D) : Sls → Res D := fun ρ => mPairs l ρ >>= fun kvs => f ρ >>= fun d => match d with
  | .str z => ofO (lookLast kvs z)
  | _ => bad
section
variable {X : Cx} {E : EX} {e : Expr} {f : Sls → Res D} {pos p1 : Pos}
/-- the pairs of a display -/
inductive EPs (X : Cx) (E : EX) : List (Option Expr) → List Expr → List (Str × (Sls → Res D)) → Prop
  | nil : EPs X E [] [] []
  | cons {k : Str} {j : Nat} {pk : Pos} {v : Expr} {g : Sls → Res D} {ks : List (Option Expr)} {vs : List Expr} {l : List (Str × (Sls → Res D))} (hv : EF X E v g) (r : EPs X E ks vs l) : EPs X E (some (.Constant (.str k) j pk) :: ks) (v :: vs) ((k, g) :: l)
def trsOf (K : PySem.W.Frag) (E : EX) (l : List (Str × (Sls → Res D))) : List (TE × TE) := l.map fun p => (tC (.str p.1), tEF K E p.2)
theorem EPs.pps {keys : List (Option Expr)} {values : List Expr} {l : List (Str × (Sls → Res D))} (h : EPs X E keys values l) : PPs X pos keys values (trsOf X.K E l) := by
  induction h with
  | nil => exact pps_nil
  | cons hv r ih => exact pps_cons pe_str hv ih
theorem EPs.len {keys : List (Option Expr)} {values : List Expr} {l : List (Str × (Sls → Res D))} (h : EPs X E keys values l) : keys.length = values.length ∧ keys.all (·.isSome) = true := by
  induction h with
  | nil => exact ⟨rfl, rfl⟩
  | cons hv r ih => exact ⟨by simp [ih.1], by simpa using ih.2⟩
theorem mergeK_look : ∀ (kvs acc : List (Key × V)) (z : Str), valV (mergeK acc kvs) (.inr z) = (match (kvs.reverse.find? fun kv => decide (kv.1 = .inr z)) with
  | some p => some p.2
  | none => valV acc (.inr z))
  | [], acc, z => by simp [mergeK]
  | p :: r, acc, z => by
    have ih := mergeK_look r (putK acc p.1 p.2) z
    show valV (mergeK (putK acc p.1 p.2) r) (.inr z) = _
    rw [ih, List.reverse_cons, List.find?_append]
    cases q : r.reverse.find? fun kv => decide (kv.1 = (.inr z : Key)) with
    | some p' => simp
    | none =>
      rw [valV_put]
      by_cases e : p.1 = (.inr z : Key)
      · simp [e]
      · have e' : ¬ (.inr z : Key) = p.1 := fun h => e h.symm
        simp [e, e']
theorem pairs_go {σ : L2.St} {O : Addr → Prop} {ρ : Sls} {F : List Addr} : ∀ {l : List (Str × (Sls → Res D))} {H : Hp} {kvs : List (Str × D)} {R : List (V × V) → Hp → Prop}, Sta X.K H O σ ρ F → mPairs l ρ = ok kvs →
    (∀ (ps : List (Key × V)) H', Same H H' → Paired (fun (p : Key × V) (q : Str × D) => p.1 = .inr q.1 ∧ Rep X.K H' O p.2 q.2) ps kvs → R (ps.map fun kv => (kV kv.1, kv.2)) H') → tPairs (trsOf X.K E l) σ H R
  | [], H, kvs, R, s, e, k => by
    cases e
    exact k [] H (Same.refl H) .nil
  | (x, g) :: l, H, kvs, R, s, e, k => by
    have e' : (g ρ >>= fun d => mPairs l ρ >>= fun l => ok ((x, d) :: l)) = ok kvs := e
    obtain ⟨d, h1, e2⟩ := Res.bind_ok e'
    obtain ⟨kr, h2, e3⟩ := Res.bind_ok e2
    cases e3
    refine ⟨ρ, O, F, s, ?_⟩
    show Po X.K E σ H (g ρ) _
    rw [h1]
    intro v H1 e1 r1
    refine pairs_go (s.same e1) h2 fun ps H2 e12 rs => ?_
    exact k ((.inr x, v) :: ps) H2 (e1.trans e12) (.cons ⟨rfl, r1.same e12⟩ rs)
theorem paired_find {H : Hp} {O : Addr → Prop} : ∀ {ps : List (Key × V)} {kvs : List (Str × D)} {z : Str} {d : D}, Paired (fun (p : Key × V) (q : Str × D) => p.1 = .inr q.1 ∧ Rep X.K H O p.2 q.2) ps kvs → kvs.lookup z = some d → ∃ p, (ps.find? fun kv => decide (kv.1 = (.inr z : Key))) = some p ∧ Rep X.K H O p.2 d
  | _, _, _, _, .nil, e => by simp at e
  | (k, v) :: ps, (x, d') :: kvs, z, d, .cons ⟨h1, h2⟩ t, e => by
    simp only at h1 h2
    subst h1
    rw [List.lookup_cons] at e
    rw [List.find?_cons]
    by_cases c : x = z
    · subst c
      simp at e
      subst e
      exact ⟨(.inr x, v), by simp, h2⟩
    · have c1 : (z == x) = false := by simpa using fun h => c h.symm
      have c2 : (decide ((.inr x : Key) = .inr z)) = false := decide_eq_false fun h => c (Sum.inr.inj h)
      rw [c1] at e
      simp only [c2]
      exact paired_find t e
theorem Paired.rev {α β : Type} {R : α → β → Prop} {xs : List α} {ys : List β} (h : Paired R xs ys) : Paired R xs.reverse ys.reverse := by
  induction h with
  | nil => exact .nil
  | cons r t ih => rw [List.reverse_cons, List.reverse_cons]; exact Paired.snoc ih r
theorem Paired.len {α β : Type} {R : α → β → Prop} {xs : List α} {ys : List β} (h : Paired R xs ys) : xs.length = ys.length := by
  induction h with
  | nil => rfl
  | cons r t ih => simp [ih]
theorem mPairs_len : ∀ {l : List (Str × (Sls → Res D))} {ρ : Sls} {kvs : List (Str × D)}, mPairs l ρ = ok kvs → kvs.length = l.length
  | [], _, _, e => by cases e; rfl
  | (x, g) :: l, ρ, kvs, e => by
    have e' : (g ρ >>= fun d => mPairs l ρ >>= fun l => ok ((x, d) :: l)) = ok kvs := e
    obtain ⟨d, h1, e2⟩ := Res.bind_ok e'
    obtain ⟨kr, h2, e3⟩ := Res.bind_ok e2
    cases e3
    simp [mPairs_len h2]
theorem Rep.updO {K : PySem.W.Frag} {H : Hp} {O : Addr → Prop} {p : Addr} {o : HO} {v : V} {d : D} (n : ¬ O p) (r : Rep K H (Ad O p) v d) (ht : NoTup H p) : Rep K (L2.upd H p o) O v d := (Rep.upd (O := Ad O p) (.inr rfl) ht r).less fun _ z => .inl z
theorem ef_dispget {keys : List (Option Expr)} {values : List Expr} {l : List (Str × (Sls → Res D))} (hu : X.A.units + 1 < cLine) (h : EPs X E keys values l) (he : EF X E e f) (hx : ∀ ρ c, mPairs l ρ ≠ exc c) (h0 : keys ≠ [] := by exact fun z => (nomatch z)) (h15 : l.length ≤ 15 := by decide) (hs : NoSl e := by exact fun _ _ => rfl) :
    EF X E (.Subscript (.Dict keys values p1) e pos) (mDispGet l f) := by
  have hk : ∀ {keys : List (Option Expr)} {values : List Expr} {l : List (Str × (Sls → Res D))}, EPs X E keys values l → keys.length = l.length := fun h => by
    induction h with
    | nil => rfl
    | cons _ _ ih => simp [ih]
  refine pe_imp (pe_dget hu (pe_disp (h.pps (pos := p1)) h.len.2 h.len.1 h0 (by rw [hk h]; exact h15)) he hs) fun σ H Q ⟨ρ, O, F, s, p⟩ => ?_
  intro a na
  have p' : Po X.K E σ H (mPairs l ρ >>= fun kvs => f ρ >>= fun d => match d with
    | .str z => ofO (lookLast kvs z)
    | _ => bad) fun d => ∀ v H', Same H H' → Rep X.K H' O v d → Q v H' := p
  cases ek : mPairs l ρ with
  | exc c => exact (hx ρ c ek).elim
  | bad => rw [ek] at p'; exact p'.elim
  | ok kvs =>
    rw [ek] at p'
    have nO : ¬ O a := fun h => (s.dom a h).1 na
    have s1 : Sta X.K (upd H a (.dK [])) (Ad O a) σ ρ F := s.add (same_new na) na (by rw [upd_same]; exact fun z => (nomatch z)) (fun ys r => by rcases r with r | ⟨o, r⟩ <;> (rw [upd_same] at r; cases r))
    refine pairs_go s1 ek fun ps H2 e2 rs => ?_
    have hH2 : H2 a = some (.dK []) := e2 a _ upd_same
    have nt : NoTup H2 a := fun ys r => by rcases r with r | ⟨o, r⟩ <;> (rw [hH2] at r; cases r)
    have hl : ps.length ≤ 15 := by rw [Paired.len rs, mPairs_len ek]; exact h15
    refine ⟨hH2, ps, rfl, hl, ?_⟩
    -- the dict stands; the key
    have same3 : Same H (upd H2 a (.dK (mergeK [] ps))) := fun b o hb => by
      have hba : b ≠ a := fun z => by subst z; rw [na] at hb; cases hb
      rw [upd_ne hba]
      exact e2 b o (same_new na b o hb)
    refine ⟨ρ, O, F, s.same same3, ((show Po X.K E σ H (f ρ >>= fun d => match d with
      | .str z => ofO (lookLast kvs z)
      | _ => bad) _ from p').bind.imp fun d p2 v H4 e4 r4 => ?_).later same3⟩
    cases d with
    | str z =>
      cases r4
      have p3 : Po X.K E σ H (ofO (lookLast kvs z)) fun d => ∀ v H', Same H H' → Rep X.K H' O v d → Q v H' := p2
      cases q : lookLast kvs z with
      | none => rw [q] at p3; exact p3.elim
      | some d =>
        rw [q] at p3
        obtain ⟨pv, h1, h2⟩ := paired_find (Paired.rev rs) q
        have hv : valV (mergeK [] ps) (.inr z) = some pv.2 := by rw [mergeK_look, h1]
        have h4 : H4 a = some (.dK (mergeK [] ps)) := e4 a _ upd_same
        refine ⟨a, pv.2, rfl, ?_, p3 _ H4 (same3.trans e4) ((h2.updO nO nt).same e4)⟩
        rw [← hv]
        exact DGet.k (k := .inr z) h4
    | _ => exact p2.elim
end
end PP

namespace PP
open PySem PySem.Spec PyProof.Rows L2
open Res (ok exc bad)
/-! ### x[::-1] of a text, a list, a tuple -/
def revS (z : Str) : Str := ⟨z.cps.toList.reverse.toArray⟩
theorem revS_length (z : Str) : (revS z).length = z.length := by
  show (z.cps.toList.reverse.toArray).size = z.cps.size
  simp
theorem rev_picked (z : Str) : (Builtin.Str.strSliceIndices none none (-1) z.length).filterMap (z.cps[·]?) = z.cps.toList.reverse := by
  have e : Builtin.Str.strSliceIndices none none (-1) z.length = sliceRange ((z.length : Int) - 1) (-1) (-1) := by
    unfold Builtin.Str.strSliceIndices
    rfl
  have e2 : z.length = z.cps.size := rfl
  rw [e, e2, PySem.W.krv_sliceRange, PySem.W.krv_range, List.filterMap_reverse, PySem.W.krv_all]
def tRevS (te : TE) : TE := fun σ H Q => te σ H fun x H1 => ∃ z, x = .str z ∧ z.length ≤ sizeLine ∧ Q (.str (revS z)) H1
section
variable {X : Cx}
theorem pe_revS {e : Expr} {te : TE} {k : Nat} {p1 p2 p3 pos : Pos} (he : PE X e te) : PE X (.Subscript e (.Slice none none (some (.UnaryOp .USub (.Constant (.int 1) k p1) p2)) p3) pos) (tRevS te) := by
  refine ⟨fun pins s σ H Q I h => ?_⟩
  refine Subscript_ (thn (he.run pins s σ H _ I h) fun v s1 ⟨x, H1, I1, r1, q1⟩ => ?_)
  obtain ⟨z, ex, hz, q⟩ := q1
  subst ex
  obtain ⟨t, rfl⟩ := r1
  have hst : PO X (some (.UnaryOp .USub (.Constant (.int 1) k p1) p2)) (tPart (tUn (rU fun i => .int (-i)) (tC (.int 1)))) := po_some (pe_un un_neg pe_int)
  refine wpAny_Slice (thn (po_none.run pins s1 σ H1 (fun o H2 => o = none ∧ H2 = H1) I1 ⟨rfl, rfl⟩) fun vl s2 ⟨l, H2, I2, pl, el, e2⟩ => ?_)
  subst el e2
  refine thn (po_none.run pins s2 σ H2 (fun o H3 => o = none ∧ H3 = H2) I2 ⟨rfl, rfl⟩) fun vu s3 ⟨u, H3, I3, pu, eu, e3⟩ => ?_
  subst eu e3
  refine thn (hst.run pins s3 σ H3 (fun o H4 => o = some (-1) ∧ H4 = H3) I3 ⟨1, rfl, -1, rfl, rfl, rfl⟩) fun vs s4 ⟨o, H4, I4, ps, eo, e4⟩ => ?_
  subst eo e4
  have I5 : Inv X pins σ H4 { s4 with heap := s4.heap.push { cls := .type "slice", data := .fields #[vl, vu, vs] } } := I4.kept (t' := s4.toks) fun b ob q => Heap.get?_push_of_some _ q
  obtain ⟨l', e1, e1'⟩ := IsPart.raw pl
  obtain ⟨u', e3, e3'⟩ := IsPart.raw pu
  obtain ⟨w', e5, e5'⟩ := IsPart.raw ps
  show wpAny (model X.prog X.w) X.A (subscriptTail e (.Slice none none (some (.UnaryOp .USub (.Constant (.int 1) k p1) p2)) p3) (.str z t) (.ref s4.heap.objs.size)) (EP X pins σ Q) X.xe { s4 with heap := s4.heap.push { cls := .type "slice", data := .fields #[vl, vu, vs] } }
  refine tail_any (ops := [.str z t, .ref s4.heap.objs.size]) (typeIs_str _ _ _) (F.slot_str_getitem.lookup) ?_ (by with_unfolding_all rfl)
  have el : l' = none := by cases l' with | none => rfl | some q => cases e1'
  have eu : u' = none := by cases u' with | none => rfl | some q => cases e3'
  have hw : (w'.map (·.1)).getD 1 = -1 := by rw [e5']; rfl
  refine wpAny_getItem_str_slice (l := l') (u := u') (st := w') ⟨_, Heap.get?_push_size _ rfl, rfl, by rw [← e1, ← e3, ← e5]⟩ (by rw [hw]; rfl) ?_
  unfold sliceMade slicePicked
  rw [hw, el, eu, if_neg (by simp)]
  show Made.post (Made.str ⟨((Builtin.Str.strSliceIndices none none (-1) z.length).filterMap (z.cps[·]?)).toArray⟩) _ _
  rw [rev_picked]
  exact ⟨by show (revS z).length ≤ sizeLine; rw [revS_length]; exact hz, .str _, H4, I5.tok _, ⟨_, rfl⟩, q⟩
end
section
variable {X : Cx} {E : EX} {e : Expr} {f : Sls → Res D}
def dRevS : D → Option D
  | .str z => if z.length ≤ sizeLine then some (.str (revS z)) else none
  | _ => none
theorem ef_revS {k : Nat} {p1 p2 p3 pos : Pos} (he : EB X E e f) : EF X E (.Subscript e (.Slice none none (some (.UnaryOp .USub (.Constant (.int 1) k p1) p2)) p3) pos) (mOp1 dRevS f) :=
  pe_imp (pe_revS he) fun σ H Q ⟨ρ, O, F, s, p⟩ => ⟨ρ, O, F, s, p.bind.imp fun d p1 v H1 e1 r1 => by
    cases d with
    | str z =>
      have p2 : VP X.K H1 O Q (if z.length ≤ sizeLine then some (.str (revS z)) else none) := p1.vp e1
      by_cases c : z.length ≤ sizeLine
      · rw [if_pos c] at p2; exact ⟨z, r1.str, c, p2 _ H1 (Same.refl _) (.str _)⟩
      · rw [if_neg c] at p2; exact p2.elim
    | _ => exact p1.elim⟩
def dRevL : D → Option D
  | .lst xs => some (.lst xs.reverse)
  | .kl xs => some (.lst xs.reverse)
  | _ => none
theorem reps_rev {K : PySem.W.Frag} {H : Hp} {O : Addr → Prop} : ∀ {vs : List V} {ds : List D}, Reps K H O vs ds → Reps K H O vs.reverse ds.reverse
  | _, _, .nil => .nil
  | _, _, .cons r t => by rw [List.reverse_cons, List.reverse_cons]; exact (reps_rev t).snoc r
theorem en_revL {k : Nat} {p1 p2 p3 pos : Pos} (he : EB X E e f) : EN X E (.Subscript e (.Slice none none (some (.UnaryOp .USub (.Constant (.int 1) k p1) p2)) p3) pos) (mOp1 dRevL f) :=
  pe_imp (pe_revL he) fun σ H Q ⟨ρ, O, F, s, p⟩ => ⟨ρ, O, F, s, p.bind.imp fun d p1 v H1 e1 r1 => by
    cases d with
    | lst xs =>
      have p2 : VN X.K H1 O Q (dRevL (.lst xs)) := p1.vn e1
      obtain ⟨a, vs, rfl, h1, z, r⟩ := r1.lst
      exact ⟨a, vs, rfl, h1, fun p n => p2 _ p _ (same_new n) n (.newL n (by rw [List.length_reverse]; exact z) (reps_rev r))⟩
    | kl xs =>
      have p2 : VN X.K H1 O Q (dRevL (.kl xs)) := p1.vn e1
      obtain ⟨a, vs, rfl, h1, z, r⟩ := r1.kl
      exact ⟨a, vs, rfl, h1, fun p n => p2 _ p _ (same_new n) n (.newL n (by rw [List.length_reverse]; exact z) (reps_rev r))⟩
    | _ => exact p1.elim⟩
/-- raise C('..') -/
structure RaOk (X : Cx) (c : Str) : Prop where
  q : PySem.W.excIn X.K (He.ga X.K c) [.type "ValueError", .type "Exception", .type "BaseException", .type "object"] "ValueError.__new__" = true
  g : X.mg c = some (.ref (He.ga X.K c))
  k : PySem.W.keepIn X.K (.ref (He.ga X.K c)) = true
  s : PySem.W.subIn X.K (.ref (He.ga X.K c)) (.type "BaseException") = some true
  t : PySem.W.typeIn X.K (.ref (He.ga X.K c)) = some (.type "type")
theorem ss_raiseE {c m : Str} {j : Nat} {p p2 pos pos2 : Pos} (hc : X.calm = true) (tk : Takes X fun cls d σ H => E σ cls d H) (R : RaOk X c) (hg : Gl X c := by rfl) (hdb : (c == ("__debug__" : Str)) = false := by decide) :
    SS X E (.Raise (some (.Call (.Name c p) [.Constant (.str m) j p2] [] pos)) none pos2) (sRaise c) :=
  ss_raise hc tk (pmk_own PySem.F.excBase_ValueError R.q R.g R.k (raises_own R.s R.t) hg hdb) fun _ _ _ _ h => h
end
end PP

namespace PP
open PySem PySem.Spec PyProof.Rows L2
open Res (ok exc bad)
/-! ### -e -/
def dNeg : D → Option D
  | .int i => some (.int (-i))
  | _ => none
theorem ef_neg {X : Cx} {E : EX} {e : Expr} {f : Sls → Res D} {pos : Pos} (he : EB X E e f) : EF X E (.UnaryOp .USub e pos) (mOp1 dNeg f) :=
  pe_imp (pe_un un_neg he) fun σ H Q ⟨ρ, O, F, s, p⟩ => ⟨ρ, O, F, s, p.bind.imp fun d p1 v H1 e1 r1 => by
    cases d with
    | int i => cases r1.int; exact ⟨i, rfl, p1 _ _ e1 (.int _)⟩
    | _ => exact p1.elim⟩
/-! ### tables of the top -/
def sB : D → Value → Bool
  | .int i, .int j _ => decide (i = j)
  | .str x, .str y _ => decide (x = y)
  | .non, .none => true
  | .bl b, .bool c => b == c
  | _, _ => false
def sBs : List D → List Value → Bool
  | [], [] => true
  | d :: ds, u :: us => sB d u && sBs ds us
  | _, _ => false
def tB (K : PySem.W.Frag) : D → Value → Bool
  | .tup ds, .ref a => (match K.lookup a with
    | some ⟨.type c, _, .seq its _, _⟩ => decide (c = "tuple") && (decide (its.size ≤ sizeLine) && sBs ds its.toList)
    | _ => false)
  | d, u => sB d u
def vOf : D → V
  | .int i => .int i
  | .str x => .str x
  | .bl b => .bl b
  | _ => .non
theorem sB_ok {K : PySem.W.Frag} {d : D} {u : Value} (h : sB d u = true) : RelV (vOf d) u ∧ ∀ H O, Rep K H O (vOf d) d := by
  cases d <;> cases u <;> first | (exact absurd (show false = true from h) (by decide)) | skip
  · exact ⟨rfl, fun _ _ => .non⟩
  · have e := eq_of_beq (show (_ == _) = true from h); subst e; exact ⟨rfl, fun _ _ => .bl _⟩
  · have e := of_decide_eq_true h; subst e; exact ⟨⟨_, rfl⟩, fun _ _ => .int _⟩
  · have e := of_decide_eq_true h; subst e; exact ⟨⟨_, rfl⟩, fun _ _ => .str _⟩
theorem sBs_ok {K : PySem.W.Frag} : ∀ {ds : List D} {us : List Value}, sBs ds us = true → Vals (ds.map vOf) us ∧ ∀ H O, Reps K H O (ds.map vOf) ds
  | [], [], _ => ⟨.nil, fun _ _ => .nil⟩
  | [], _ :: _, h => by cases h
  | _ :: _, [], h => by cases h
  | d :: ds, u :: us, h => by
    obtain ⟨h1, h2⟩ := He.ba (show (sB d u && sBs ds us) = true from h)
    obtain ⟨a1, a2⟩ := sB_ok (K := K) h1
    obtain ⟨b1, b2⟩ := sBs_ok (K := K) h2
    exact ⟨.cons a1 b1, fun H O => .cons (a2 H O) (b2 H O)⟩
theorem tB_ok {K : PySem.W.Frag} {d : D} {u : Value} (h : tB K d u = true) : ∃ v, RelV v u ∧ ∀ H O, Rep K H O v d := by
  unfold tB at h
  split at h
  · rename_i ds a
    split at h
    · rename_i c od its n sl q
      obtain ⟨h1, h2⟩ := He.ba h
      obtain ⟨h3, h4⟩ := He.ba h2
      obtain ⟨b1, b2⟩ := sBs_ok (K := K) h4
      have h5 := of_decide_eq_true h3
      refine ⟨.ref a, rfl, fun H O => .tup (.inr ⟨_, its, n, q, congrArg Value.type (of_decide_eq_true h1), rfl, h5, b1⟩) ?_ (b2 H O)⟩
      rw [b1.length]
      simpa using h5
    · cases h
  · exact ⟨_, sB_ok (K := K) h⟩
def tblB (x : Str) (tbl : List (Str × D)) (K : PySem.W.Frag) : Bool := tbl.all fun q => match PySem.W.nsIn K (He.ga K x) q.1 with
  | some (some u) => tB K q.2 u
  | _ => false
theorem keys_find {P : Params} {z : Str} : ∀ {l : List DictEntry} {ks : List Str}, l.map He.keyOf = He.keysIn P ks → z ∉ ks → l.find? (fun e => e.key.isStr z) = none ∧ l.any (fun e => e.refKey) = false
  | [], _, _, _ => ⟨rfl, rfl⟩
  | e :: r, [], h, _ => by cases h
  | e :: r, k :: ks, h, hz => by
    have h1 : He.keyOf e :: r.map He.keyOf = some (k, PyData.keyHash P k) :: He.keysIn P ks := h
    injection h1 with h2 h3
    obtain ⟨i1, i2⟩ := keys_find (P := P) h3 (fun q => hz (List.mem_cons_of_mem _ q))
    unfold He.keyOf at h2
    split at h2
    · rename_i x t q
      have h4 := Option.some.inj h2
      obtain ⟨h5, h6⟩ := Prod.mk.inj h4
      have e1 : e.key.isStr z = false := by
        rw [q]
        show (x == z) = false
        rw [h5]
        simpa using fun w => hz (by rw [w]; simp)
      have e2 : e.refKey = false := by
        unfold DictEntry.refKey
        rw [q]
      exact ⟨by rw [List.find?_cons, e1]; exact i1, by rw [List.any_cons, e2]; exact i2⟩
    · cases h2
theorem nsIn_no {K : PySem.W.Frag} {w : World} {a : Addr} {ks : List Str} {z : Str} (h : He.dicW K a = some (He.keysIn w.params ks)) (hz : z ∉ ks) : PySem.W.nsIn K a z = some none := by
  unfold He.dicW at h
  cases q : K.lookup a with
  | none =>
    rw [q] at h
    cases h
  | some o =>
    obtain ⟨oc, od, dt, osl⟩ := o
    rw [q] at h
    cases oc with
    | type c =>
      cases od with
      | none =>
        cases dt with
        | dict es n =>
          have h1 : (match decide (c = "dict") && (osl.isEmpty && !(a == sysModules)) with
            | true => some (es.toList.map He.keyOf)
            | false => none) = some (He.keysIn w.params ks) := h
          split at h1
          · obtain ⟨i1, i2⟩ := keys_find (Option.some.inj h1) hz
            unfold PySem.W.nsIn
            rw [q]
            show (match es.toList.find? (·.key.isStr z) with
              | some e => some (some e.val)
              | none => if es.toList.any (·.refKey) then none else some none) = some none
            rw [i1]
            show (if es.toList.any (·.refKey) then none else some none) = some none
            rw [i2]
            rfl
          · cases h1
        | _ => cases h
      | some b => cases dt <;> cases h
    | _ => cases od <;> cases dt <;> cases h
theorem ktab_of {K : PySem.W.Frag} {w : World} {x : Str} {tbl : List (Str × D)} (h1 : He.dicW K (He.ga K x) = some (He.keysIn w.params (tbl.map (·.1)))) (h2 : tblB x tbl K = true) : KTab K w x tbl where
  kd := He.dicW_ok h1
  yes := fun z d e => by
    have hm : (z, d) ∈ tbl := by
      clear h1 h2
      induction tbl with
      | nil => cases e
      | cons q r ih =>
        rw [List.lookup_cons] at e
        split at e
        · rename_i hb
          have hz := eq_of_beq hb
          cases e
          obtain ⟨q1, q2⟩ := q
          subst hz
          simp
        · exact List.mem_cons_of_mem _ (ih e)
    have h3 := List.all_eq_true.mp h2 (z, d) hm
    cases q : PySem.W.nsIn K (He.ga K x) z with
    | none => simp only [q] at h3; cases h3
    | some r =>
      cases r with
      | none => simp only [q] at h3; cases h3
      | some u =>
        simp only [q] at h3
        obtain ⟨v, r1, r2⟩ := tB_ok h3
        exact ⟨u, v, rfl, r1, r2⟩
  no := fun z e => nsIn_no h1 fun hm => by
    clear h1 h2
    induction tbl with
    | nil => simp at hm
    | cons q r ih =>
      rw [List.lookup_cons] at e
      split at e
      · cases e
      · rename_i hb
        simp only [List.map_cons, List.mem_cons] at hm
        rcases hm with hm | hm
        · rw [hm] at hb; simp at hb
        · exact ih e hm
theorem saysT_dic {fa : List He.Fa} {fn : List He.DefD} {ts : List He.Tab} {w : World} {K : PySem.W.Frag} (c : He.SaysT fa fn ts w K) (i : Nat) {t : He.Tab} (h : ts[i]? = some t := by rfl) : He.dicW K (t.1 K) = some (He.keysIn w.params t.2) := by
  have e : ts.map (fun t => He.dicW K (t.1 K)) = ts.map fun t => some (He.keysIn w.params t.2) := congrArg (fun z : He.AlT => z.2) c
  have e2 : (ts.map fun t => He.dicW K (t.1 K))[i]? = (ts.map fun t => some (He.keysIn w.params t.2))[i]? := by rw [e]
  rw [List.getElem?_map, List.getElem?_map, h] at e2
  exact Option.some.inj e2
/-! ### exceptions that a suite asks of -/
def excB (c : Str) (K : PySem.W.Frag) : Bool :=
  decide (PySem.W.findIn K (.ref (He.ga K c)) "__getattribute__" = some (some (.builtin "BaseException.__getattribute__"))) && (decide (PySem.W.findIn K (.ref (He.ga K c)) "__getattr__" = some none) && (decide (PySem.W.subIn K (.ref (He.ga K c)) (.type "BaseException") = some true) &&
  (PySem.W.hasDictIn K (He.ga K c) && (decide (PySem.W.findIn K (.ref (He.ga K c)) "__class__" = some (some (.builtin "object.__class__"))) && (decide (PySem.W.specialIn K (.builtin "object.__class__") "__get__" = some (some (.builtin "getset_descriptor.__get__"))) &&
  (decide (PySem.W.takesIn K (.builtin "object.__class__") = some true) && decide (PySem.W.mroIn K (He.ga K c) (.type "object") = some true)))))))
theorem excB_ok {c : Str} {K : PySem.W.Frag} (h : excB c K = true) : ExcC K (He.ga K c) := by
  unfold excB at h
  simp only [Bool.and_eq_true, decide_eq_true_eq] at h
  obtain ⟨h1, h2, h3, h4, h5, h6, h7, h8⟩ := h
  exact ⟨h1, h2, h3, h4, h5, h6, h7, h8⟩
def kitB' (cs : List Str) (sub : Str → Str → Bool) (C : Str) (K : PySem.W.Frag) : Bool := cs.all fun c => excB c K && decide (PySem.W.kitOne K (.ref (He.ga K c)) (.ref (He.ga K C)) = some (sub c C))
theorem kitB_ok {cs : List Str} {sub : Str → Str → Bool} {C : Str} {K : PySem.W.Frag} (h : kitB' cs sub C K = true) : IsiOk K cs sub C := fun c hc => by
  have h1 := List.all_eq_true.mp h c hc
  simp only [Bool.and_eq_true, decide_eq_true_eq] at h1
  exact ⟨excB_ok h1.1, h1.2⟩
def exmB (cs : List Str) (sub : Str → Str → Bool) (A : Str) (K : PySem.W.Frag) : Bool := cs.all fun c => decide (PySem.W.exmOne K (.ref (He.ga K c)) (.ref (He.ga K A)) = some (sub c A))
theorem exmB_ok {cs : List Str} {sub : Str → Str → Bool} {A : Str} {K : PySem.W.Frag} (h : exmB cs sub A K = true) : ExmOk K cs sub A := fun c hc => of_decide_eq_true (List.all_eq_true.mp h c hc)
theorem fldOk_of {K : PySem.W.Frag} {c f : Str} (h1 : (He.Fa.cls c).ok K = true) (h2 : (He.Fa.noat c f).ok K = true) : FldOk K f c := ⟨He.cls_ok h1, He.noat_ok h2⟩
/-! ### a def and what it promises -/
structure FnP (P : Program) (w : World) (K : PySem.W.Frag) (mg : Str → Option Value) (base : Heap) (k : Nat) (fa : Addr) (ps : List Str) (sp : Sp) : Prop where
  ex : ∃ fd, FnOk P w K mg base (L2.CX P w) k fa fd ps sp ∧ Binds K fd ps [] ∧ ∃ oc od osl, K.lookup fa = some ⟨oc, od, .func fd, osl⟩
  kp : PySem.W.keepIn K (.ref fa) = true
/-- a def of the written part -/
structure DefK (K : PySem.W.Frag) (st : Stmt) (x qual : Str) (fa : Addr) (ps : List Str) : Prop where
  ex : ∃ fd, Fun K x qual st fa fd ∧ Binds K fd ps [] ∧ (∀ (s : Shared) (us : List Value), us.length = ps.length → BindsTo s fd ⟨us, []⟩ (ps.zip us))
  kp : PySem.W.keepIn K (.ref fa) = true
theorem DefK.of {K : PySem.W.Frag} {st : Stmt} {x qual : Str} {fa : Addr} {ps : List Str} (h : ∃ fd, FunD K x qual (defArgs st) (defBody st) (defScope st) [] [] fa fd)
    (hb : ∀ (kV doc pm : Value) (an : Option Addr) (cdv ct : Value) (us : List Value), us.length = ps.length → bindArgs (PySem.W.fnOf x qual (defArgs st) (defBody st) (defScope st) .none kV doc pm an cdv ct) ⟨us, []⟩ = pure (ps.zip us)) : DefK K st x qual fa ps := by
  obtain ⟨fd, F⟩ := h
  exact ⟨⟨fd, He5.fun_of F, F.bindsN hb, F.bindsA hb⟩, F.kp⟩
theorem fun_lk {K : PySem.W.Frag} {st : Stmt} {x qual : Str} {fa : Addr} {fd : FuncData} (F : Fun K x qual st fa fd) : ∃ oc od osl, K.lookup fa = some ⟨oc, od, .func fd, osl⟩ := by
  obtain ⟨oc, od, _, _, _, _, _, _, osl, _, lk, _⟩ := F.ex
  exact ⟨oc, od, osl, lk⟩
theorem FnP.at_ {P : Program} {w : World} {K : PySem.W.Frag} {mg : Str → Option Value} {base : Heap} {k : Nat} {fa : Addr} {ps : List Str} {sp : Sp} {x qual : Str} {st : Stmt} {fd : FuncData} (h : FnP P w K mg base k fa ps sp) (F : Fun K x qual st fa fd) : FnOk P w K mg base (L2.CX P w) k fa fd ps sp := by
  obtain ⟨fd', G, _, oc, od, osl, lk⟩ := h.ex
  obtain ⟨oc2, od2, osl2, lk2⟩ := fun_lk F
  rw [lk] at lk2
  cases lk2
  exact G
theorem DefK.f {P : Program} {w : World} {K : PySem.W.Frag} {mg : Str → Option Value} {base : Heap} {x qual : Str} {st : Stmt} {fa : Addr} {N ps : List Str} {k : Nat} {body : Sls → Fl} (h : DefK K st x qual fa ps) (S : FnScope N ps (defScope st))
    (hb : ∀ (cdv : Value) (A : Around) (outer : List Env) (s : Shared) (H : Hp) (E : XK), Room k (A.deeper (envOfC qual (defScope st) s.heap.objs.size fa cdv)) →
      SSs (cxOf (L2.CX P w) P w K mg base N qual (defScope st) fa cdv A outer s H E) (fun _ => E) (defBody st) body) : FnP P w K mg base (k + 1) fa ps (spF K (runF N.length ps.length body)) := by
  obtain ⟨fd, F, b, _⟩ := h.ex
  exact ⟨⟨fd, fn_F F S hb, b, fun_lk F⟩, h.kp⟩
theorem DefK.i {P : Program} {w : World} {K : PySem.W.Frag} {mg : Str → Option Value} {base : Heap} {c x qual : Str} {st : Stmt} {fa : Addr} {N ps : List Str} {p0 : Str} {k n : Nat} {body : Sls → Fl} (h : DefK K st x qual fa (p0 :: ps)) (S : FnScope N (p0 :: ps) (defScope st)) (hn : N.length = n + 1)
    (hb : ∀ (cdv : Value) (A : Around) (outer : List Env) (s : Shared) (H : Hp) (E : XK), Room k (A.deeper (envOfC qual (defScope st) s.heap.objs.size fa cdv)) →
      SSs (cxOf (L2.CX P w) P w K mg base N qual (defScope st) fa cdv A outer s H E) (fun _ => E) (defBody st) body) : FnP P w K mg base (k + 1) fa (p0 :: ps) (spI K c (runI (n + 1) ps.length c body)) := by
  obtain ⟨fd, F, b, _⟩ := h.ex
  exact ⟨⟨fd, fn_I F S hn hb, b, fun_lk F⟩, h.kp⟩
/-! ### a law's end -/
theorem walk_ofX {l : PySem.W.OpenLaw} {n k : Nat} {q : Program} {loose : List Str} {XP : (Str → Option Value) → Heap → Prop} {YP : World → Heap → Prop} {d : DefRec} {x qual : Str} {st : Stmt} {Fl : List D → Res D}
    (hn : l.most = some n) (hn2 : n ≤ sizeLine) (hdf : d.params.defaults = []) (hr : Room k callerA)
    (F : ∀ (w : World) (mg : Str → Option Value) (fa : Addr) (h : Heap), YP w h → h.Ns mainGlobals mg → mg d.name = some (.ref fa) →
      ∃ (K : PySem.W.Frag), K.In h ∧ DefK K st d.name qual fa [x] ∧ ∀ base : Heap, K.In base → base.Ns mainGlobals mg → ∀ fd, Fun K d.name qual st fa fd → FnOk l.prog w K mg base (L2.CX l.prog w) k fa fd [x] (spF K Fl))
    (hL : ∀ ns : List Int, ns.length ≤ n → Fl [.kl (ns.map .int)] = ok (.bl true)) :
    PySem.W.WalkO q loose XP YP l.row.toRowW d [] (fun f vs => PySem.call f vs) := by
  refine Att.attach_call hn hdf fun w s₀ s₁ mg mb fa o pm cd doc a vs ns G Y ho hd hcd hmg hobj hints hlen hg => ?_
  obtain ⟨K, KX, DK, hF⟩ := F w mg fa _ Y G.T.g hmg
  obtain ⟨fd, fu, _, hb⟩ := DK.ex
  refine law_call (sp := spF K Fl) KX G.T.g G.T.b G.T.builtins G.T.nolimit hg hobj hints (Nat.le_trans hlen hn2) hr (fun base h1 h2 => hF base h1 h2 fd fu) (fun s u => hb s [u] rfl) (fun H hO hS => ?_) fun H e s' ⟨_, _, _, _, _, _, _, _, _, _, _, _, z⟩ => z
  refine ⟨[.kl (ns.map .int)], fun _ => False, .cons (.kl (vs := ns.map V.int) ?_ ?_ ?_) .nil, fun _ z => z.elim, ?_⟩
  · rcases hS with z | z
    · exact .inl ⟨z, fun z => z⟩
    · exact .inr z
  · rw [List.length_map]; exact Nat.le_trans hlen hn2
  · clear hS hlen hints
    induction ns with
    | nil => exact .nil
    | cons i r ih => exact .cons (.int i) ih
  · rw [hL ns hlen]
    exact fun v H' _ r => by cases r; rfl
end PP

namespace PP
open PySem PySem.Spec PyProof.Rows L2
open Res (ok exc bad)
theorem none_of {P : Str → Prop} : ∀ x ∈ ([] : List Str), P x := fun _ h => by cases h
theorem cons_of {P : Str → Prop} {c : Str} {l : List Str} (h : P c) (r : ∀ x ∈ l, P x) : ∀ x ∈ c :: l, P x := fun x hx => by
  rcases List.mem_cons.mp hx with e | e
  · rw [e]; exact h
  · exact r x e
theorem un1 {k : Nat} {A : Around} (r : Room k A) : A.units + 1 < cLine := by have := r.un; omega
theorem un65 {k : Nat} {A : Around} (r : Room k A) : A.units + 65 < cLine := by have := r.un; omega
theorem passB {X : Cx} (σ : L2.St) : PassesAt (L2.CX X.prog X.w) X σ (E0' σ) := fun pins H s e s' I c => by
  obtain ⟨_, _, _, _, _, _, _, _, _, _, _, _, z⟩ := c
  exact z.elim
def sFrz (i : Nat) (s : Sls → Fl) : Sls → Fl := fun ρ => s (frzAt i ρ)
structure ExcF (K : PySem.W.Frag) (mg : Str → Option Value) (c : Str) : Prop where
  q : PySem.W.excIn K (He.ga K c) He.veBase "ValueError.__new__" = true ∧ PySem.W.keepIn K (.ref (He.ga K c)) = true ∧ PySem.W.subIn K (.ref (He.ga K c)) (.type "BaseException") = some true ∧ PySem.W.typeIn K (.ref (He.ga K c)) = some (.type "type")
  g : mg c = some (.ref (He.ga K c))
theorem ExcF.ra {X : Cx} {c : Str} (h : ExcF X.K X.mg c) : RaOk X c := ⟨h.q.1, h.g, h.q.2.1, h.q.2.2.1, h.q.2.2.2⟩
theorem allB {l : List Bool} (h : l.all id = true) (i : Nat) {b : Bool} (e : l[i]? = some b) : b = true := List.all_eq_true.mp h b (List.mem_of_getElem? e)
end PP

namespace PP
open PySem PySem.Spec PyProof.Rows L2
open Res (ok exc bad)
/-! ### keys -/
section
variable {X : Cx} {pins : List (Addr × Obj)} {σ : L2.St} {H : Hp} {O : Addr → Prop} {s : Shared}
mutual
theorem nested_of (I : Inv X pins σ H s) : ∀ {v d k u}, Rep X.K H O v d → keyD d = some k → RelV v u → NestedIs s.heap k u
  | _, _, _, _, .int i, e, r => by
    simp [keyD] at e
    subst e
    obtain ⟨t, rfl⟩ := r
    exact .int i t
  | _, _, k, u, .tup (a := a) h z r, e, ru => by
    simp only [keyD, Option.map_eq_some_iff] at e
    obtain ⟨ks, e1, rfl⟩ := e
    cases (show u = Value.ref a from ru)
    obtain ⟨its, rv, ⟨o, ho, hc, n, hd⟩, _⟩ := I.tuple h
    exact .tup ho hc hd (by simpa using nested_all I r e1 rv)
  | _, _, _, _, .non, e, _ => by simp [keyD] at e
  | _, _, _, _, .bl _, e, _ => by simp [keyD] at e
  | _, _, _, _, .str _, e, _ => by simp [keyD] at e
  | _, _, _, _, .ty _, e, _ => by simp [keyD] at e
  | _, _, _, _, .lst _ _ _ _, e, _ => by simp [keyD] at e
  | _, _, _, _, .kl _ _ _, e, _ => by simp [keyD] at e
  | _, _, _, _, .obj _ _ _, e, _ => by simp [keyD] at e
  | _, _, _, _, .dct _ _ _ _ _, e, _ => by simp [keyD] at e
theorem nested_all (I : Inv X pins σ H s) : ∀ {vs ds ks us}, Reps X.K H O vs ds → keyD.keyDs ds = some ks → Vals vs us → NestedAll s.heap ks us
  | _, _, _, _, .nil, e, .nil => by
    simp [keyD.keyDs] at e
    subst e
    exact .nil
  | _, _, _, _, .cons r t, e, .cons ru rus => by
    simp only [keyD.keyDs, Option.bind_eq_some_iff, Option.map_eq_some_iff] at e
    obtain ⟨k, e1, ks, e2, rfl⟩ := e
    exact .cons (nested_of I r e1 ru) (nested_all I t e2 rus)
end
end
/-- a dict's key: a tuple, at most 8 deep -/
def keyT : D → Option NestedKey
  | .tup xs => (keyD (.tup xs)).bind fun k => if k.depth ≤ 8 then some k else none
  | _ => none
theorem keyT_ok {d : D} {k : NestedKey} (h : keyT d = some k) : keyD d = some k ∧ k.depth ≤ 8 ∧ ∃ xs, d = .tup xs := by
  cases d with
  | tup xs =>
    obtain ⟨k', e1, e2⟩ := Option.bind_eq_some_iff.mp (show ((keyD (.tup xs)).bind fun k => if k.depth ≤ 8 then some k else none) = some k from h)
    split at e2
    · cases e2
      exact ⟨e1, by assumption, xs, rfl⟩
    · cases e2
  | _ => cases h
/-- all keys are such -/
def keysOk (kvs : List (D × D)) : Bool := kvs.all fun p => (keyT p.1).isSome
def lookD (kvs : List (D × D)) (k : NestedKey) : Option D := (kvs.find? fun p => decide (keyD p.1 = some k)).map (·.2)
section
variable {K : PySem.W.Frag} {H : Hp} {O : Addr → Prop}
theorem RepKs.look {k : NestedKey} : ∀ {xs kvs}, RepKs K H O xs kvs → (atKey xs k).isSome = (lookD kvs k).isSome ∧ ∀ d, lookD kvs k = some d → ∃ p v, atKey xs k = some p ∧ RelV v p.2 ∧ Rep K H O v d
  | _, _, .nil => ⟨rfl, fun d e => by cases e⟩
  | _, _, .cons (k := k') (b := b) (u := u) (v := v) (dk := dk) (dv := dv) r ek ru rv t => by
    obtain ⟨i1, i2⟩ := t.look (k := k)
    unfold atKey lookD
    rw [List.find?_cons, List.find?_cons]
    by_cases e : k' = k
    · subst e
      rw [decide_eq_true rfl, decide_eq_true ek]
      exact ⟨rfl, fun d ed => by cases ed; exact ⟨(b, u), v, rfl, ru, rv⟩⟩
    · have e2 : ¬ keyD dk = some k := by rw [ek]; exact fun z => e (Option.some.inj z)
      rw [decide_eq_false e, decide_eq_false e2]
      exact ⟨i1, i2⟩
theorem RepKs.key : ∀ {xs kvs}, RepKs K H O xs kvs → keysOk kvs = true → ∀ x ∈ xs, ∃ dk, Rep K H O (.ref x.2.1) dk ∧ keyD dk = some x.1 ∧ x.1.depth ≤ 8
  | _, _, .nil, _, x, hx => by cases hx
  | _, _, .cons (k := k') (dk := dk) r ek ru rv t, hk, x, hx => by
    unfold keysOk at hk
    rw [List.all_cons, Bool.and_eq_true] at hk
    rcases List.mem_cons.mp hx with e | e
    · subst e
      obtain ⟨k2, e2⟩ := Option.isSome_iff_exists.mp hk.1
      obtain ⟨e3, e4, _⟩ := keyT_ok e2
      have : k2 = k' := Option.some.inj (e3.symm.trans ek)
      subst this
      exact ⟨dk, r, ek, e4⟩
    · exact t.key hk.2 x e
theorem RepKs.length : ∀ {xs kvs}, RepKs K H O xs kvs → xs.length = kvs.length
  | _, _, .nil => rfl
  | _, _, .cons _ _ _ _ t => congrArg (· + 1) t.length
end
/-! ### the object -/
section
variable {X : Cx} {pins : List (Addr × Obj)} {σ : L2.St} {H : Hp} {O : Addr → Prop} {s : Shared} {a : Addr} {ob : Obj} {xs : List (NestedKey × Addr × Value)} {kvs : List (D × D)}
theorem dict_of (I : Inv X pins σ H s) (e : H a = some (.ext (DictAt a ob xs))) (r : RepKs X.K H O xs kvs) (hk : keysOk kvs = true) (nd : (xs.map (·.1)).Nodup) : (a == sysModules) = false ∧ s.heap.DictOfH (nestedKind X.prog X.w) a xs := by
  obtain ⟨⟨h1, h2, h3, es, ep, h4, h5⟩, _⟩ := (show ObjOk X.prog X.w H s.heap a (.ext (DictAt a ob xs)) from I.hok a _ e)
  exact ⟨h1, ob, es, ep, h2, h3, h4, h5 X.w, fun x hx => by
    obtain ⟨dk, r1, r2, r3⟩ := r.key hk x hx
    exact ⟨nested_of I r1 r2 rfl, r3⟩, nd⟩
theorem room8 {A : Around} (h : A.units + 65 < cLine) : A.in1.units + 8 < cLine := by
  show A.units + 1 + 8 < cLine
  omega
/-- y in d -/
def rInDct (K : PySem.W.Frag) (neg : Bool) : R2 := fun x y H Q => ∃ b a ob xs kvs d k Z, x = .ref b ∧ y = .ref a ∧ H a = some (.ext (DictAt a ob xs)) ∧ RepKs K H Z xs kvs ∧ keysOk kvs = true ∧ (xs.map (·.1)).Nodup ∧ Rep K H Z (.ref b) d ∧ keyT d = some k ∧ Q (.bl (neg ^^ (lookD kvs k).isSome)) H
theorem op_inDct (hu : X.A.units + 65 < cLine) : OpR X (compareOp .In) (rInDct X.K false) := by
  intro pins s σ H x y v u Q I rx ry h
  obtain ⟨b, a, ob, xs, kvs, d, k, Z, rfl, rfl, e, r, hk, nd, rd, kt, q⟩ := h
  cases rx
  cases ry
  obtain ⟨h1, h2⟩ := dict_of I e r hk nd
  obtain ⟨k1, k2, _⟩ := keyT_ok kt
  refine wpAny_in_heap (knd := nestedKind X.prog X.w) (room8 hu) ⟨nested_of I rd k1 rfl, k2⟩ h1 h2 ?_
  rw [(r.look (k := k)).1]
  rw [Bool.false_xor] at q
  exact ⟨.bl _, H, I.tok _, rfl, q⟩
theorem op_notInDct (hu : X.A.units + 65 < cLine) : OpR X (compareOp .NotIn) (rInDct X.K true) := by
  intro pins s σ H x y v u Q I rx ry h
  obtain ⟨b, a, ob, xs, kvs, d, k, Z, rfl, rfl, e, r, hk, nd, rd, kt, q⟩ := h
  cases rx
  cases ry
  obtain ⟨h1, h2⟩ := dict_of I e r hk nd
  obtain ⟨k1, k2, _⟩ := keyT_ok kt
  refine wpAny_notIn_heap (knd := nestedKind X.prog X.w) (room8 hu) ⟨nested_of I rd k1 rfl, k2⟩ h1 h2 ?_
  rw [(r.look (k := k)).1]
  rw [Bool.true_xor] at q
  exact ⟨.bl _, H, I.tok _, rfl, q⟩
/-- d[y] -/
def rIxDct (K : PySem.W.Frag) : R2 := fun y x H Q => ∃ b a ob xs kvs d k dv Z, x = .ref b ∧ y = .ref a ∧ H a = some (.ext (DictAt a ob xs)) ∧ RepKs K H Z xs kvs ∧ keysOk kvs = true ∧ (xs.map (·.1)).Nodup ∧ Rep K H Z (.ref b) d ∧ keyT d = some k ∧ lookD kvs k = some dv ∧ ∀ v, Rep K H Z v dv → Q v H
theorem ix_dct (hu : X.A.units + 65 < cLine) : IxR X (rIxDct X.K) := by
  intro value slice pins s σ H x y v u Q I rx ry h hs
  obtain ⟨b, a, ob, xs, kvs, d, k, dv, Z, rfl, rfl, e, r, hk, nd, rd, kt, lk, q⟩ := h
  cases rx
  cases ry
  obtain ⟨h1, h2⟩ := dict_of I e r hk nd
  obtain ⟨k1, k2, _⟩ := keyT_ok kt
  obtain ⟨p, v, e1, e2, e3⟩ := (r.look (k := k)).2 dv lk
  refine tail_any h2.typeIs PySem.F.slot_dict_getitem.lookup (wpAny_getItem_heap (knd := nestedKind X.prog X.w) (room8 hu) ⟨nested_of I rd k1 rfl, k2⟩ h2 e1 ?_) hs
  exact ⟨v, H, I.tok _, e2, q v e3⟩
end
/-! ### hashes that are the same in every world -/
mutual
theorem keyD_hash : ∀ {d : D} {k : NestedKey}, keyD d = some k → ∀ w w' : World, k.hash w = k.hash w'
  | .int i, k, e, w, w' => by
    simp [keyD] at e
    subst e
    simp [NestedKey.hash]
  | .tup xs, k, e, w, w' => by
    simp only [keyD, Option.map_eq_some_iff] at e
    obtain ⟨ks, e1, rfl⟩ := e
    simp only [NestedKey.hash, keyDs_hash e1 w w']
  | .non, _, e, _, _ => by simp [keyD] at e
  | .bl _, _, e, _, _ => by simp [keyD] at e
  | .str _, _, e, _, _ => by simp [keyD] at e
  | .ty _, _, e, _, _ => by simp [keyD] at e
  | .lst _, _, e, _, _ => by simp [keyD] at e
  | .kl _, _, e, _, _ => by simp [keyD] at e
  | .obj _ _, _, e, _, _ => by simp [keyD] at e
  | .dct _, _, e, _, _ => by simp [keyD] at e
theorem keyDs_hash : ∀ {ds : List D} {ks : List NestedKey}, keyD.keyDs ds = some ks → ∀ w w' : World, NestedKey.hashes w ks = NestedKey.hashes w' ks
  | [], ks, e, w, w' => by
    simp [keyD.keyDs] at e
    subst e
    simp [NestedKey.hashes]
  | d :: ds, ks, e, w, w' => by
    simp only [keyD.keyDs, Option.bind_eq_some_iff, Option.map_eq_some_iff] at e
    obtain ⟨k, e1, ks', e2, rfl⟩ := e
    simp only [NestedKey.hashes, keyD_hash e1 w w', keyDs_hash e2 w w']
end
/-! ### d[k] = v -/
def putD (kvs : List (D × D)) (dk : D) (k : NestedKey) (dv : D) : List (D × D) := if (lookD kvs k).isSome then kvs.map (fun p => if keyD p.1 = some k then (p.1, dv) else p) else kvs ++ [(dk, dv)]
section
variable {K : PySem.W.Frag} {H : Hp} {O : Addr → Prop}
theorem RepKs.repl {k : NestedKey} {u : Value} {v : V} {dv : D} (ru : RelV v u) (rv : Rep K H O v dv) : ∀ {xs kvs}, RepKs K H O xs kvs → RepKs K H O (xs.map (putAt k u)) (kvs.map fun p => if keyD p.1 = some k then (p.1, dv) else p)
  | _, _, .nil => .nil
  | _, _, .cons (k := k') (b := b) (u := u') (dk := dk) (dv := dv') r ek ru' rv' t => by
    have ih := RepKs.repl (k := k) ru rv t
    rw [List.map_cons, List.map_cons]
    unfold putAt at ih ⊢
    by_cases e : k' = k
    · rw [if_pos e, if_pos (by rw [ek, e])]
      exact .cons r ek ru rv ih
    · rw [if_neg e, if_neg (by rw [ek]; exact fun z => e (Option.some.inj z))]
      exact .cons r ek ru' rv' ih
theorem RepKs.app : ∀ {xs ys kvs lvs}, RepKs K H O xs kvs → RepKs K H O ys lvs → RepKs K H O (xs ++ ys) (kvs ++ lvs)
  | _, _, _, _, .nil, s => s
  | _, _, _, _, .cons r k u v t, s => .cons r k u v (t.app s)
theorem RepKs.put {xs kvs} {k : NestedKey} {b : Addr} {u : Value} {v : V} {dk dv : D} (h : RepKs K H O xs kvs) (r : Rep K H O (.ref b) dk) (ek : keyD dk = some k) (ru : RelV v u) (rv : Rep K H O v dv) : RepKs K H O (storedH xs k b u) (putD kvs dk k dv) := by
  unfold storedH putD
  rw [← (h.look (k := k)).1]
  split
  · exact h.repl ru rv
  · exact h.app (.cons r ek ru rv .nil)
theorem RepKs.hash : ∀ {xs kvs}, RepKs K H O xs kvs → ∀ w w' : World, ∀ x ∈ xs, x.1.hash w = x.1.hash w'
  | _, _, .nil, _, _, x, hx => by cases hx
  | _, _, .cons r ek ru rv t, w, w', x, hx => by
    rcases List.mem_cons.mp hx with e | e
    · rw [e]; exact keyD_hash ek w w'
    · exact t.hash w w' x e
end
theorem dictAt_of {P : Program} {w : World} {h : Heap} {a : Addr} {xs : List (NestedKey × Addr × Value)} (hd : (a == sysModules) = false) (x : h.DictOfH (nestedKind P w) a xs) (hh : ∀ w w' : World, ∀ x ∈ xs, x.1.hash w = x.1.hash w') : ∃ ob, DictAt a ob xs h := by
  obtain ⟨o, es, ep, h1, h2, h3, h4, _⟩ := x
  refine ⟨o, hd, h1, h2, es, ep, h3, fun w' => ?_⟩
  rw [h4]
  refine List.map_congr_left fun x hx => ?_
  show (⟨x.1.hash w, .ref x.2.1, x.2.2⟩ : DictEntry) = ⟨x.1.hash w', .ref x.2.1, x.2.2⟩
  rw [hh w w' x hx]
theorem dictAt_stab {a : Addr} {ob : Obj} {xs : List (NestedKey × Addr × Value)} (h1 h2 : Heap) (x : DictAt a ob xs h1) (k : ∀ o, h1.get? a = some o → h2.get? a = some o) : DictAt a ob xs h2 := by
  obtain ⟨hd, e, r⟩ := x
  exact ⟨hd, k _ e, r⟩
section
variable {X : Cx} {pins : List (Addr × Obj)} {σ : L2.St} {H : Hp} {O : Addr → Prop} {s : Shared} {a b : Addr} {ob : Obj} {xs : List (NestedKey × Addr × Value)} {kvs : List (D × D)} {A : Around} {E : Value → Shared → Prop}
/-- d[k] = v -/
theorem dct_put {d : D} {k : NestedKey} {dv : D} {v : V} {r : Value} {Q : Unit → Shared → Prop} (hu : A.units + 65 < cLine) (I : Inv X pins σ H s) (e : H a = some (.ext (DictAt a ob xs))) (rk : RepKs X.K H O xs kvs) (hk : keysOk kvs = true) (nd : (xs.map (·.1)).Nodup) (hz : xs.length ≤ sizeLine)
    (rd : Rep X.K H O (.ref b) d) (kt : keyT d = some k) (rv : RelV v r) (rv2 : Rep X.K H O v dv) (h : ∀ ob2 s', (storedH xs k b r).map (·.1) |>.Nodup → Inv X pins σ (upd H a (.ext (DictAt a ob2 (storedH xs k b r)))) s' → Q () s') :
    wpAny (model X.prog X.w) A (setItem (.ref a) (.ref b) r) Q E s := by
  obtain ⟨h1, h2⟩ := dict_of I e rk hk nd
  obtain ⟨k1, k2, _⟩ := keyT_ok kt
  refine wpAny_setItem_heap (knd := nestedKind X.prog X.w) (hsz := hz) (room8 hu) ⟨nested_of I rd k1 rfl, k2⟩ h2 fun h' dd' hs => ?_
  have rk2 := rk.put rd k1 rv rv2
  obtain ⟨ob2, da2⟩ := dictAt_of h1 dd' rk2.hash
  have dd2 := dd'
  obtain ⟨q, es, ep, hq, _, _, _, _, hnd⟩ := dd2
  exact h ob2 _ hnd (d_write I (by rw [e]; exact True.intro) hs ⟨q, hq⟩ ⟨da2, ⟨q, hq⟩, dictAt_stab⟩)
end
end PP

namespace PP
open PySem PySem.Spec PyProof.Rows L2
open Res (ok exc bad)
section
variable {K : PySem.W.Frag} {H : Hp} {O : Addr → Prop} {v : V}
theorem RepB.dct {kvs : List (D × D)} (h : RepB K H O v (.dct kvs)) : ∃ a ob xs, v = .ref a ∧ H a = some (.ext (DictAt a ob xs)) ∧ xs.length ≤ sizeLine ∧ (xs.map (·.1)).Nodup ∧ RepKs K H O xs kvs := by
  rcases h with h | ⟨a, e, h⟩
  · cases h with
    | dct h n z q r => exact ⟨_, _, _, rfl, h, z, q, r⟩
  · obtain ⟨ob, xs, h1, h2, h3, h4⟩ := h
    exact ⟨a, ob, xs, e, h1, h2, h3, h4⟩
theorem RepB.tupR {xs : List D} (h : RepB K H O v (.tup xs)) : Rep K H O v (.tup xs) := by
  rcases h with h | ⟨a, e, h⟩
  · exact h
  · exact h.elim
theorem Rep.refT {xs : List D} (h : Rep K H O v (.tup xs)) : ∃ b, v = .ref b := by
  cases h
  exact ⟨_, rfl⟩
end
/-! ### in, not in, d[k] -/
def dInD (neg : Bool) (d : D) (kvs : List (D × D)) : Option D := (keyT d).bind fun k => if keysOk kvs then some (.bl (neg ^^ (lookD kvs k).isSome)) else none
def dInX : D → D → Option D
  | d, .dct kvs => dInD false d kvs
  | d, e => dIn d e
def dNotInX : D → D → Option D
  | d, .dct kvs => dInD true d kvs
  | d, e => dNotIn d e
def rInX (K : PySem.W.Frag) : R2 := fun x y H Q => rInA K x y H Q ∨ rInDct K false x y H Q
def rNotInX (K : PySem.W.Frag) : R2 := fun x y H Q => rNotInA K x y H Q ∨ rInDct K true x y H Q
section
variable {X : Cx}
theorem op_inX (hu : X.A.units + 65 < cLine) : OpR X (compareOp .In) (rInX X.K) := (op_inA hu).or (op_inDct hu)
theorem op_notInX (hu : X.A.units + 65 < cLine) : OpR X (compareOp .NotIn) (rNotInX X.K) := (op_notInA hu).or (op_notInDct hu)
end
theorem inD_go {K : PySem.W.Frag} {H : Hp} {O : Addr → Prop} {x y : V} {dx : D} {kvs : List (D × D)} {neg : Bool} {Q : VK} (rx : RepB K H O x dx) (ry : RepB K H O y (.dct kvs)) (q : VP K H O Q (dInD neg dx kvs)) : rInDct K neg x y H Q := by
  unfold dInD at q
  cases kt : keyT dx with
  | none => rw [kt] at q; exact q.elim
  | some k =>
    rw [kt] at q
    by_cases hk : keysOk kvs = true
    · rw [Option.bind_some, if_pos hk] at q
      obtain ⟨_, _, xs, rfl⟩ := keyT_ok kt
      have rx' := rx.tupR
      obtain ⟨b, rfl⟩ := rx'.refT
      obtain ⟨a, ob, es, rfl, e1, e2, e3, e4⟩ := ry.dct
      exact ⟨b, a, ob, es, kvs, _, k, O, rfl, rfl, e1, e4, hk, e3, rx', kt, q _ H (Same.refl H) (.bl _)⟩
    · rw [Option.bind_some, if_neg hk] at q
      exact q.elim
theorem o_inX {K : PySem.W.Frag} : Op2 K (rInX K) dInX := by
  intro H O x y dx dy Q dm rx ry q
  cases dy with
  | dct kvs => exact .inr (inD_go rx ry q)
  | _ => exact .inl (o_in H O x y dx _ Q dm rx ry q)
theorem o_notInX {K : PySem.W.Frag} : Op2 K (rNotInX K) dNotInX := by
  intro H O x y dx dy Q dm rx ry q
  cases dy with
  | dct kvs => exact .inr (inD_go rx ry q)
  | _ => exact .inl (o_notIn H O x y dx _ Q dm rx ry q)
def dIxX : D → D → Option D
  | .dct kvs, d => (keyT d).bind fun k => if keysOk kvs then lookD kvs k else none
  | a, b => dIx a b
def rIxX (K : PySem.W.Frag) : R2 := fun x y H Q => rIx K x y H Q ∨ rIxDct K x y H Q
theorem ix_any {X : Cx} (hu : X.A.units + 65 < cLine) : IxR X (rIxX X.K) := ix_seq.or (ix_dct hu)
theorem o_ixX {K : PySem.W.Frag} : Op2 K (rIxX K) dIxX := by
  intro H O x y dx dy Q dm rx ry q
  cases dx with
  | dct kvs =>
    have q' : VP K H O Q ((keyT dy).bind fun k => if keysOk kvs then lookD kvs k else none) := q
    cases kt : keyT dy with
    | none => rw [kt] at q'; exact q'.elim
    | some k =>
      rw [kt, Option.bind_some] at q'
      by_cases hk : keysOk kvs = true
      · rw [if_pos hk] at q'
        cases lk : lookD kvs k with
        | none => rw [lk] at q'; exact q'.elim
        | some dv =>
          rw [lk] at q'
          obtain ⟨_, _, xs, rfl⟩ := keyT_ok kt
          have ry' := ry.tupR
          obtain ⟨b, rfl⟩ := ry'.refT
          obtain ⟨a, ob, es, rfl, e1, e2, e3, e4⟩ := rx.dct
          exact .inr ⟨b, a, ob, es, kvs, _, k, dv, O, rfl, rfl, e1, e4, hk, e3, ry', kt, lk, fun v r => q' v H (Same.refl H) r⟩
      · rw [if_neg hk] at q'
        exact q'.elim
  | _ => exact .inl (o_ix H O x y _ dy Q dm rx ry q)
/-! ### {} -/
theorem en_dnew {X : Cx} {E : EX} {pos : Pos} : EN X E (.Dict [] [] pos) (mC (.dct [])) := ⟨fun pins s σ H Q I ⟨ρ, O, F, st, p⟩ => by
  have hb := I.big
  refine wpAny_Dict_empty ⟨.ref s.heap.objs.size, _, I.laid (a := s.heap.objs.size) (o := .ext (DictAt s.heap.objs.size { cls := .type "dict", data := .dict #[] } [])) (t' := s.toks) (fun _ _ q => Heap.get?_push_of_some _ q) (Nat.le_refl _) ⟨⟨beq_eq_false_iff_ne.mpr (Ne.symm (Nat.ne_of_lt hb)), Heap.get?_push_size _ rfl, ⟨rfl, rfl, rfl⟩, #[], 0, rfl, fun _ => rfl⟩, ⟨_, Heap.get?_push_size _ rfl⟩, dictAt_stab⟩, rfl, ?_⟩
  have fr := I.hok.fresh (Nat.le_refl s.heap.objs.size)
  exact p _ _ _ (same_new fr) fr ⟨rfl, .inr rfl, _, [], upd_same, Nat.zero_le _, List.nodup_nil, .nil⟩⟩
/-! ### d[k] = v, d in slot i -/
def sPut (i : Nat) (f g : Sls → Res D) : Sls → Fl := fun ρ => match ρ[i]? with
  | some (.ow (.dct kvs)) => thenF (g ρ) ρ fun dv => thenF (f ρ) ρ fun dk => (match keyT dk with
    | some k => if keysOk kvs = true ∧ kvs.length < sizeLine then .nx (ρ.set i (.ow (.dct (putD kvs dk k dv)))) else .bad
    | none => .bad)
  | _ => .bad
theorem putD_len (kvs : List (D × D)) (dk : D) (k : NestedKey) (dv : D) : (putD kvs dk k dv).length ≤ kvs.length + 1 := by
  unfold putD
  split
  · rw [List.length_map]; omega
  · rw [List.length_append]; simp
def rPut (K : PySem.W.Frag) (x y v : V) (H : Hp) (P : Hp → Prop) : Prop := ∃ a b ob xs kvs d k dv Z, x = V.ref a ∧ y = V.ref b ∧ H a = some (.ext (DictAt a ob xs)) ∧ RepKs K H Z xs kvs ∧ keysOk kvs = true ∧ (xs.map (·.1)).Nodup ∧ xs.length ≤ sizeLine ∧ Rep K H Z (.ref b) d ∧ keyT d = some k ∧ Rep K H Z v dv ∧
  ∀ u ob2, RelV v u → ((storedH xs k b u).map (·.1)).Nodup → P (upd H a (.ext (DictAt a ob2 (storedH xs k b u))))
def tPut (K : PySem.W.Frag) (td ty tv : TE) : TS := fun D σ H => tv σ H fun v H1 => td σ H1 fun x H2 => ty σ H2 fun y H3 => rPut K x y v H3 fun H4 => D.nx σ H4
theorem ps_put {X : Cx} {o i value : Expr} {pos pos' : Pos} {td ty tv : TE} (hu : X.A.units + 65 < cLine) (ho : PE X o td) (hi : PE X i ty) (hv : PE X value tv) (hs : swapsWith value (some (.Subscript o i pos')) pos.line X.env = pure false) :
    PS X (.Assign [.Subscript o i pos'] value pos) (tPut X.K td ty tv) := by
  refine ⟨fun pins s σ H D I h => ?_⟩
  refine wpAny_Assign_Subscript (thn (hv.run pins s σ H _ I h) fun r s1 ⟨v, H1, I1, rv, q1⟩ => thn (ho.run pins s1 σ H1 _ I1 q1) fun u s2 ⟨x, H2, I2, rx, q2⟩ => thn (hi.run pins s2 σ H2 _ I2 q2) fun iv s3 ⟨y, H3, I3, ry, a, b, ob, xs, kvs, d, k, dv, Z, ex, ey, e, rk, hk, nd, hz, rd, kt, rv2, q3⟩ => ?_) hs
  subst ex ey
  obtain rfl : u = Value.ref a := rx
  obtain rfl : iv = Value.ref b := ry
  exact dct_put hu I3 e rk hk nd hz rd kt rv rv2 fun ob2 s4 hn I4 => ⟨σ, _, I4, q3 r ob2 rv hn⟩
theorem put_reads {Kf : PySem.W.Frag} {E : EX} {i : Nat} {f g : Sls → Res D} {D' : Ends} {σ : L2.St} {H : Hp} (hq : tSS Kf E (sPut i f g) D' σ H) : tPut Kf (tVar i) (tEF Kf E f) (tEF Kf E g) D' σ H := by
  obtain ⟨ρ, O, F, s, p⟩ := hq
  unfold sPut at p
  split at p
  · rename_i kvs e
    obtain ⟨a, e1, hF, hO, ob, xs, h1, h2, h3, h4⟩ := s.st.getO e
    refine ⟨ρ, O, F, s, (FP.po s p).imp fun dv p1 v H1 eH rv => ?_⟩
    have s1 := s.same eH
    have p2 := FP.later s (Tr.same eH) p1
    refine ⟨_, e1, ρ, O, F, s1, (FP.po s1 p2).imp fun dk p3 y H2 eH2 ry => ?_⟩
    have s2 := s1.same eH2
    cases kt : keyT dk with
    | none => rw [kt] at p3; exact p3.elim
    | some k =>
      rw [kt] at p3
      by_cases hc : keysOk kvs = true ∧ kvs.length < sizeLine
      · simp only [] at p3
        rw [if_pos hc] at p3
        obtain ⟨k1, k2, ts, rfl⟩ := keyT_ok kt
        obtain ⟨b, rfl⟩ := ry.refT
        have ea : H2 a = some (.ext (DictAt a ob xs)) := eH2 _ _ (eH _ _ h1)
        have hT : NoTup H2 a := fun ys r => by rcases r with r | ⟨o, r⟩ <;> (rw [ea] at r; cases r)
        have rk2 := (h4.same eH).same eH2
        have rv2 := rv.same eH2
        refine ⟨a, b, ob, xs, kvs, _, k, dv, O, rfl, rfl, ea, rk2, hc.1, h3, h2, ry, kt, rv2, fun u ob2 ru hn => ?_⟩
        have rk3 := rk2.put ry k1 ru rv2
        have hl : (storedH xs k b u).length ≤ sizeLine := by
          rw [rk3.length]
          have := putD_len kvs (.tup ts) k dv
          omega
        have hk : RepK Kf (upd H2 a (.ext (DictAt a ob2 (storedH xs k b u)))) O a (.dct (putD kvs (.tup ts) k dv)) := ⟨_, _, upd_same, hl, hn, rk3.upd hO hT⟩
        have st2 := RSt.updAt hO hT hk e e1 s2.st
        refine p3 _ _ O F ⟨st2, fun b hb => ?_⟩ ⟨fun b o q n => ?_, fun b hb => .inl hb, fun b hb => .inl hb, fun b hb => .inl hb⟩
        · by_cases hba : b = a
          · subst hba
            exact ⟨by rw [upd_same]; exact fun z => (nomatch z), fun ys r => by rcases r with r | ⟨o, r⟩ <;> (rw [upd_same] at r; cases r)⟩
          · obtain ⟨d1, d2⟩ := s2.dom b hb
            exact ⟨by rw [upd_ne hba]; exact d1, fun xs q => d2 xs (by rcases q with q | ⟨o, q⟩ <;> rw [upd_ne hba] at q; exact .inl q; exact .inr ⟨o, q⟩)⟩
        · rw [upd_ne (fun z => n (by rw [z]; exact hF))]
          exact eH2 _ _ q
      · simp only [] at p3
        rw [if_neg hc] at p3
        exact p3.elim
  · exact p.elim
theorem ss_put (i : Nat) {X : Cx} {E : EX} {x : Str} {e1 e2 : Expr} {f g : Sls → Res D} {px pos' pos : Pos} (hu : X.A.units + 65 < cLine) (hk : EF X E e1 f) (hv : EF X E e2 g) (hN : X.N[i]? = some x := by rfl) (hvx : Vis X.env.scope x := by first | exact Or.inl rfl | exact Or.inr (Or.inl rfl) | exact Or.inr (Or.inr rfl))
    (hd : (x == ("__debug__" : Str)) = false := by decide) (hcd : (x == ("__classdict__" : Str)) = false := by decide) (hs : swapsWith e2 (some (.Subscript (.Name x px) e1 pos')) pos.line X.env = pure false := by rfl) :
    SS X E (.Assign [.Subscript (.Name x px) e1 pos'] e2 pos) (sPut i f g) :=
  ps_imp (ps_put hu (pe_var hN hvx hd hcd) hk hv hs) fun D σ H hq => put_reads hq
end PP

namespace PP
open PySem PySem.Spec PyProof.Rows L2
open Res (ok exc bad)
abbrev B3 := V × D × PyData
def rSortedD (K : PySem.W.Frag) : List V → Hp → VK → Prop := fun vs H Q => ∃ (a : Addr) (bs : List B3), vs = [V.ref a] ∧ SqL K H a (bs.map (·.1)) ∧ (∀ b ∈ bs, Dp K H b.1 b.2.2) ∧ PySem.W.AllAlike (bs.map (·.2.2)) ∧ PySem.W.Sortable (bs.map (·.2.2)) ∧ (∀ b ∈ bs, b.2.2.depth ≤ 60) ∧
  ∀ p, H p = none → Q (.ref p) (upd H p (.lst ((bs.mergeSort (PySem.W.dataLe false (·.2.2))).map (·.1))))
section
variable {X : Cx} {pins : List (Addr × Obj)} {σ : L2.St} {H : Hp} {s : Shared}
theorem each_reads (I : Inv X pins σ H s) : ∀ {bs : List B3} {its : List Value}, Vals (bs.map (·.1)) its → (∀ b ∈ bs, Dp X.K H b.1 b.2.2) → PySem.W.EachIs (fun v (b : B3) => RelV b.1 v) its bs ∧ PySem.W.EachIs (fun v (b : B3) => ∃ as, Reads s.heap v b.2.2 as) its bs
  | [], _, .nil, _ => ⟨.nil, .nil⟩
  | b :: bs, _, .cons r t, h => by
    obtain ⟨i1, i2⟩ := each_reads I t fun x hx => h x (by simp [hx])
    exact ⟨.cons r i1, .cons (Dp.reads I b.2.2 b.1 _ (h b (by simp)) r) i2⟩
theorem each_vals : ∀ {bs : List B3} {its : List Value}, PySem.W.EachIs (fun v (b : B3) => RelV b.1 v) its bs → Vals (bs.map (·.1)) its
  | _, _, .nil => .nil
  | _, _, .cons r t => .cons r (each_vals t)
theorem cr_sortedD (hu : X.A.units + 65 < cLine) : CallR X (.builtin "sorted") (rSortedD X.K) := by
  intro pins s σ H vs us Q I r h
  obtain ⟨a, bs, rfl, hs, hd, h1, h2, h3, q⟩ := h
  obtain ⟨its, rv, hl, hz⟩ := I.list hs
  rw [Vals.ref1 r]
  obtain ⟨e1, e2⟩ := each_reads I rv hd
  rw [List.length_map] at hz
  refine PySem.W.sorted_data (enc := fun b : B3 => b.2.2) hl.isList e1 e2 h1 h2 hz (fun b hb => by have := h3 b hb; omega) fun out ho eo => ?_
  obtain ⟨ep, he'⟩ := PyProof.Rows.sortedAll_at s.heap its out.toArray
  have rv2 := each_vals eo
  have hlen : ((bs.mergeSort (PySem.W.dataLe false fun b : B3 => b.2.2)).map (·.1)).length ≤ sizeLine := by rw [List.length_map, List.length_mergeSort]; exact hz
  exact ⟨.ref _, upd H (s.heap.objs.size + 1) (.lst ((bs.mergeSort (PySem.W.dataLe false fun b : B3 => b.2.2)).map (·.1))), I.laid (t' := s.toks) (fun _ _ => PyProof.Rows.sortedAll_old) (Nat.le_succ _) ⟨hlen, out, ep, rv2, he'⟩, rfl, q _ (I.hok.fresh (Nat.le_succ _))⟩
end
/-! ### what it answers -/
def tup1 : PyData → Bool
  | .tuple (_ :: _) => true
  | _ => false
def noTupN : PyData → Bool
  | .tuple _ => false
  | .none => false
  | _ => true
def sortOk (ps : List PyData) : Bool := (ps.all fun d => ps.all fun d' => PySem.W.alike d d') && (ps.all tup1 || ps.all noTupN) && ps.all fun d => decide (d.depth ≤ 60)
def sortD (ds : List D) (ps : List PyData) : List D := ((ds.zip ps).mergeSort (PySem.W.dataLe false fun b : D × PyData => b.2)).map (·.1)
def dSorted : List D → Option D
  | [.lst ds] => (toPDs ds).bind fun ps => if sortOk ps then some (.lst (sortD ds ps)) else none
  | [.kl ds] => (toPDs ds).bind fun ps => if sortOk ps then some (.lst (sortD ds ps)) else none
  | _ => none
theorem zip3 {K : PySem.W.Frag} {H : Hp} {O : Addr → Prop} : ∀ {vs : List V} {ds : List D} {ps : List PyData}, Reps K H O vs ds → toPDs ds = some ps → ∃ bs : List B3, bs.map (·.1) = vs ∧ bs.map (·.2) = ds.zip ps ∧ bs.map (·.2.2) = ps ∧ ∀ b ∈ bs, Dp K H b.1 b.2.2 ∧ Rep K H O b.1 b.2.1
  | _, _, ps, .nil, e => by
    simp [toPDs] at e
    subst e
    exact ⟨[], rfl, rfl, rfl, fun _ h => by simp at h⟩
  | _, _, ps, .cons (v := v) (d := d) r t, e => by
    simp only [toPDs, Option.bind_eq_some_iff, Option.map_eq_some_iff] at e
    obtain ⟨p, e1, qs, e2, rfl⟩ := e
    obtain ⟨bs, b1, b2, b3, b4⟩ := zip3 t e2
    refine ⟨(v, d, p) :: bs, by simp [b1], by simp [b2], by simp [b3], fun b hb => ?_⟩
    rcases List.mem_cons.mp hb with e | e
    · rw [e]; exact ⟨r.dp e1, r⟩
    · exact b4 b e
theorem reps_of {K : PySem.W.Frag} {H : Hp} {O : Addr → Prop} : ∀ {bs : List B3}, (∀ b ∈ bs, Rep K H O b.1 b.2.1) → Reps K H O (bs.map (·.1)) (bs.map (·.2.1))
  | [], _ => .nil
  | b :: bs, h => .cons (h b (by simp)) (reps_of fun x hx => h x (by simp [hx]))
theorem sortOk_ok {ps : List PyData} (h : sortOk ps = true) : PySem.W.AllAlike ps ∧ PySem.W.Sortable ps ∧ ∀ d ∈ ps, d.depth ≤ 60 := by
  unfold sortOk at h
  simp only [Bool.and_eq_true, Bool.or_eq_true, List.all_eq_true, decide_eq_true_eq] at h
  obtain ⟨⟨h1, h2⟩, h3⟩ := h
  refine ⟨fun d hd d' hd' => h1 d hd d' hd', ?_, h3⟩
  rcases h2 with h2 | h2
  · refine .inl fun d hd => ?_
    have := h2 d hd
    unfold tup1 at this
    split at this
    · exact ⟨_, _, rfl⟩
    · cases this
  · refine .inr fun d hd => ?_
    have := h2 d hd
    unfold noTupN at this
    split at this
    · cases this
    · cases this
    · rename_i z1 z2
      exact ⟨z2, z1⟩
theorem sorted_go {K : PySem.W.Frag} {H : Hp} {O : Addr → Prop} {a : Addr} {vs : List V} {ds : List D} {Q : VK} (hs : SqL K H a vs) (hz : vs.length ≤ sizeLine) (r : Reps K H O vs ds) (q : VN K H O Q ((toPDs ds).bind fun ps => if sortOk ps then some (.lst (sortD ds ps)) else none)) (dm : Dom H O) : rSortedD K [.ref a] H Q := by
  cases e : toPDs ds with
  | none => rw [e] at q; exact q.elim
  | some ps =>
    rw [e, Option.bind_some] at q
    by_cases hk : sortOk ps = true
    · rw [if_pos hk] at q
      obtain ⟨h1, h2, h3⟩ := sortOk_ok hk
      obtain ⟨bs, b1, b2, b3, b4⟩ := zip3 r e
      refine ⟨a, bs, rfl, by rw [b1]; exact hs, fun b hb => (b4 b hb).1, by rw [b3]; exact h1, by rw [b3]; exact h2, fun b hb => h3 _ (by rw [← b3]; exact List.mem_map.mpr ⟨b, hb, rfl⟩), fun p np => q _ p _ (same_new np) np ?_⟩
      have el : sortD ds ps = (bs.mergeSort (PySem.W.dataLe false fun b : B3 => b.2.2)).map (·.2.1) := by
        unfold sortD
        have z := List.map_mergeSort (r := PySem.W.dataLe false fun b : B3 => b.2.2) (s := PySem.W.dataLe false fun b : D × PyData => b.2) (f := fun b : B3 => b.2) (l := bs) (fun _ _ _ _ => rfl)
        rw [← b2, ← z, List.map_map]
        rfl
      rw [el]
      refine RepN.newL np ?_ (reps_of fun b hb => (b4 b (List.mem_mergeSort.mp hb)).2)
      rw [List.length_map, List.length_mergeSort]
      have : bs.length = vs.length := by rw [← b1, List.length_map]
      omega
    · rw [if_neg hk] at q
      exact q.elim
theorem c_sortedD {K : PySem.W.Frag} : Cl1N K (rSortedD K) dSorted := by
  intro H O vs ds Q dm r q
  unfold dSorted at q
  split at q
  · obtain ⟨v, rfl, rv⟩ := r.one
    obtain ⟨a, xs, rfl, h1, h2, h3⟩ := rv.lst
    exact sorted_go h1 h2 h3 q dm
  · obtain ⟨v, rfl, rv⟩ := r.one
    obtain ⟨a, xs, rfl, h1, h2, h3⟩ := rv.kl
    exact sorted_go h1 h2 h3 q dm
  · exact q.elim
end PP

namespace PP
open PySem PySem.Spec PyProof.Rows L2
open Res (ok exc bad)
/-! ### <, <=, >, >= of nested data that are alike -/
abbrev dlt' : PyData → PyData → Bool := PySem.W.dataLt
def cLt (p q : PyData) : Bool := PySem.W.dataLt p q
def cGt (p q : PyData) : Bool := PySem.W.dataLt q p
def cLe (p q : PyData) : Bool := !PySem.W.dataLt q p
def cGe (p q : PyData) : Bool := !PySem.W.dataLt p q
def rCmpD (K : PySem.W.Frag) (f : PyData → PyData → Bool) : R2 := fun x y H Q => ∃ p q, Dp K H x p ∧ Dp K H y q ∧ PySem.W.alike p q = true ∧ p ≠ .none ∧ p.depth ≤ 60 ∧ Q (.bl (f p q)) H
section
variable {X : Cx}
theorem room60 {u p q : Nat} (hu : u + 65 < cLine) (hp : p ≤ 60) : u + min p q < cLine := by
  have := Nat.min_le_left p q
  omega
theorem op_ltD (hu : X.A.units + 65 < cLine) : OpR X (compareOp .Lt) (rCmpD X.K cLt) := by
  intro pins s σ H x y v u Q I rx ry h
  obtain ⟨p, q, hp, hq, h1, h2, h3, k⟩ := h
  obtain ⟨as, r1⟩ := Dp.reads I p x v hp rx
  obtain ⟨bs, r2⟩ := Dp.reads I q y u hq ry
  exact PySem.W.lt_data r1 r2 h1 h2 (room60 hu h3) ⟨.bl _, H, I, rfl, k⟩
theorem op_gtD (hu : X.A.units + 65 < cLine) : OpR X (compareOp .Gt) (rCmpD X.K cGt) := by
  intro pins s σ H x y v u Q I rx ry h
  obtain ⟨p, q, hp, hq, h1, h2, h3, k⟩ := h
  obtain ⟨as, r1⟩ := Dp.reads I p x v hp rx
  obtain ⟨bs, r2⟩ := Dp.reads I q y u hq ry
  exact PySem.W.gt_data r1 r2 h1 h2 (room60 hu h3) ⟨.bl _, H, I, rfl, k⟩
theorem op_leD (hu : X.A.units + 65 < cLine) : OpR X (compareOp .LtE) (rCmpD X.K cLe) := by
  intro pins s σ H x y v u Q I rx ry h
  obtain ⟨p, q, hp, hq, h1, h2, h3, k⟩ := h
  obtain ⟨as, r1⟩ := Dp.reads I p x v hp rx
  obtain ⟨bs, r2⟩ := Dp.reads I q y u hq ry
  exact PySem.W.le_data r1 r2 h1 h2 (room60 hu h3) ⟨.bl _, H, I, rfl, k⟩
theorem op_geD (hu : X.A.units + 65 < cLine) : OpR X (compareOp .GtE) (rCmpD X.K cGe) := by
  intro pins s σ H x y v u Q I rx ry h
  obtain ⟨p, q, hp, hq, h1, h2, h3, k⟩ := h
  obtain ⟨as, r1⟩ := Dp.reads I p x v hp rx
  obtain ⟨bs, r2⟩ := Dp.reads I q y u hq ry
  exact PySem.W.ge_data r1 r2 h1 h2 (room60 hu h3) ⟨.bl _, H, I, rfl, k⟩
end
def isNone : PyData → Bool
  | .none => true
  | _ => false
def cmpD (f : PyData → PyData → Bool) (a b : D) : Option D := (toPD a).bind fun p => (toPD b).bind fun q => if PySem.W.alike p q && !isNone p && decide (p.depth ≤ 60) then some (.bl (f p q)) else none
def dLtX : D → D → Option D
  | .int i, .int j => some (.bl (decide (i < j)))
  | a, b => cmpD cLt a b
def dGtX : D → D → Option D
  | .int i, .int j => some (.bl (decide (j < i)))
  | a, b => cmpD cGt a b
def dLeX : D → D → Option D
  | .int i, .int j => some (.bl (decide (i ≤ j)))
  | a, b => cmpD cLe a b
def dGeX : D → D → Option D
  | .int i, .int j => some (.bl (decide (j ≤ i)))
  | a, b => cmpD cGe a b
theorem cmpD_go {K : PySem.W.Frag} {H : Hp} {O : Addr → Prop} {x y : V} {dx dy : D} {f : PyData → PyData → Bool} {Q : VK} (rx : RepB K H O x dx) (ry : RepB K H O y dy) (q : VP K H O Q (cmpD f dx dy)) : rCmpD K f x y H Q := by
  unfold cmpD at q
  cases e1 : toPD dx with
  | none => rw [e1] at q; exact q.elim
  | some p =>
    rw [e1, Option.bind_some] at q
    cases e2 : toPD dy with
    | none => rw [e2] at q; exact q.elim
    | some p2 =>
      rw [e2, Option.bind_some] at q
      by_cases c : (PySem.W.alike p p2 && !isNone p && decide (p.depth ≤ 60)) = true
      · rw [if_pos c] at q
        simp only [Bool.and_eq_true, decide_eq_true_eq, Bool.not_eq_true'] at c
        exact ⟨p, p2, rx.dp e1, ry.dp e2, c.1.1, fun z => by rw [z] at c; exact absurd c.1.2 (by decide), c.2, q _ H (Same.refl H) (.bl _)⟩
      · rw [if_neg c] at q
        exact q.elim
def rLtX (K : PySem.W.Frag) : R2 := fun x y H Q => rI0 (fun i j => .bl (decide (i < j))) x y H Q ∨ rCmpD K cLt x y H Q
def rGtX (K : PySem.W.Frag) : R2 := fun x y H Q => rI0 (fun i j => .bl (decide (j < i))) x y H Q ∨ rCmpD K cGt x y H Q
def rLeX (K : PySem.W.Frag) : R2 := fun x y H Q => rI0 (fun i j => .bl (decide (i ≤ j))) x y H Q ∨ rCmpD K cLe x y H Q
def rGeX (K : PySem.W.Frag) : R2 := fun x y H Q => rI0 (fun i j => .bl (decide (j ≤ i))) x y H Q ∨ rCmpD K cGe x y H Q
section
variable {X : Cx}
theorem op_ltX (hu : X.A.units + 65 < cLine) : OpR X (compareOp .Lt) (rLtX X.K) := op_lt.or (op_ltD hu)
theorem op_gtX (hu : X.A.units + 65 < cLine) : OpR X (compareOp .Gt) (rGtX X.K) := op_gt.or (op_gtD hu)
theorem op_leX (hu : X.A.units + 65 < cLine) : OpR X (compareOp .LtE) (rLeX X.K) := op_le.or (op_leD hu)
theorem op_geX (hu : X.A.units + 65 < cLine) : OpR X (compareOp .GtE) (rGeX X.K) := op_ge.or (op_geD hu)
end
section
variable {K : PySem.W.Frag}
theorem o_ltX : Op2 K (rLtX K) dLtX := by
  intro H O x y dx dy Q dm rx ry q
  unfold dLtX at q
  split at q
  · exact .inl (o_lt H O x y _ _ Q dm rx ry q)
  · exact .inr (cmpD_go rx ry q)
theorem o_gtX : Op2 K (rGtX K) dGtX := by
  intro H O x y dx dy Q dm rx ry q
  unfold dGtX at q
  split at q
  · exact .inl (o_gt H O x y _ _ Q dm rx ry q)
  · exact .inr (cmpD_go rx ry q)
theorem o_leX : Op2 K (rLeX K) dLeX := by
  intro H O x y dx dy Q dm rx ry q
  unfold dLeX at q
  split at q
  · exact .inl (o_le H O x y _ _ Q dm rx ry q)
  · exact .inr (cmpD_go rx ry q)
theorem o_geX : Op2 K (rGeX K) dGeX := by
  intro H O x y dx dy Q dm rx ry q
  unfold dGeX at q
  split at q
  · exact .inl (o_ge H O x y _ _ Q dm rx ry q)
  · exact .inr (cmpD_go rx ry q)
end
/-! ### is, is not with a truth value -/
def dIsX : D → D → Option D
  | .bl a, .bl b => some (.bl (decide (a = b)))
  | a, b => dIsN a b
def dNotX : D → D → Option D
  | .bl a, .bl b => some (.bl (!decide (a = b)))
  | a, b => dNotN a b
def rBl (f : Bool → Bool → Bool) : R2 := fun x y H Q => ∃ a b, x = .bl a ∧ y = .bl b ∧ Q (.bl (f a b)) H
def rIsX : R2 := fun x y H Q => (∃ a b, x = .bl a ∧ y = .bl b ∧ Q (.bl (decide (a = b))) H) ∨ rIsN x y H Q
def rNotX : R2 := fun x y H Q => (∃ a b, x = .bl a ∧ y = .bl b ∧ Q (.bl (!decide (a = b))) H) ∨ rNotN x y H Q
theorem op_isX {X : Cx} : OpR X (compareOp .Is) rIsX := op_is_bl.or op_isN
theorem op_notX {X : Cx} : OpR X (compareOp .IsNot) rNotX := op_isnot_bl.or op_notN
theorem o_isX {K : PySem.W.Frag} : Op2 K rIsX dIsX := by
  intro H O x y dx dy Q dm rx ry q
  unfold dIsX at q
  split at q
  · exact .inl ⟨_, _, rx.bl, ry.bl, q _ H (Same.refl H) (.bl _)⟩
  · exact .inr (o_isN H O x y _ _ Q dm rx ry q)
theorem o_notX {K : PySem.W.Frag} : Op2 K rNotX dNotX := by
  intro H O x y dx dy Q dm rx ry q
  unfold dNotX at q
  split at q
  · exact .inl ⟨_, _, rx.bl, ry.bl, q _ H (Same.refl H) (.bl _)⟩
  · exact .inr (o_notN H O x y _ _ Q dm rx ry q)
/-! ### tuples (of tuples) of the module's top -/
mutual
def cB (K : PySem.W.Frag) : D → Value → Bool
  | .tup ds, .ref a => (match K.lookup a with
    | some ⟨.type c, _, .seq its _, _⟩ => decide (c = "tuple") && (decide (its.size ≤ sizeLine) && cBs K ds its.toList)
    | _ => false)
  | d, u => sB d u
def cBs (K : PySem.W.Frag) : List D → List Value → Bool
  | [], [] => true
  | d :: ds, u :: us => cB K d u && cBs K ds us
  | _, _ => false
end
mutual
theorem cB_ok {K : PySem.W.Frag} : ∀ {d : D} {u : Value}, cB K d u = true → ∃ v, RelV v u ∧ ∀ H O, Rep K H O v d := fun {d u} h => by
  unfold cB at h
  split at h
  · rename_i ds a
    split at h
    · rename_i c od its n sl q
      obtain ⟨h1, h2⟩ := He.ba h
      obtain ⟨h3, h4⟩ := He.ba h2
      obtain ⟨vs, b1, b2⟩ := cBs_ok (K := K) h4
      have h5 := of_decide_eq_true h3
      refine ⟨.ref a, rfl, fun H O => .tup (.inr ⟨_, its, n, q, congrArg Value.type (of_decide_eq_true h1), rfl, h5, b1⟩) ?_ (b2 H O)⟩
      rw [b1.length]
      simpa using h5
    · cases h
  · exact ⟨_, sB_ok (K := K) h⟩
termination_by d => sizeOf d
theorem cBs_ok {K : PySem.W.Frag} : ∀ {ds : List D} {us : List Value}, cBs K ds us = true → ∃ vs, Vals vs us ∧ ∀ H O, Reps K H O vs ds
  | [], [], _ => ⟨[], .nil, fun _ _ => .nil⟩
  | [], _ :: _, h => by cases h
  | _ :: _, [], h => by cases h
  | d :: ds, u :: us, h => by
    obtain ⟨h1, h2⟩ := He.ba (show (cB K d u && cBs K ds us) = true from h)
    obtain ⟨v, a1, a2⟩ := cB_ok (K := K) h1
    obtain ⟨vs, b1, b2⟩ := cBs_ok (K := K) h2
    exact ⟨v :: vs, .cons a1 b1, fun H O => .cons (a2 H O) (b2 H O)⟩
termination_by ds => sizeOf ds
end
/-- the module's name x is this tuple -/
def CTup (K : PySem.W.Frag) (x : Str) (d : D) : Prop := ∀ H O, Rep K H O (.ref (He.ga K x)) d
theorem ctup_of {K : PySem.W.Frag} {x : Str} {d : D} (h : cB K d (.ref (He.ga K x)) = true) : CTup K x d := fun H O => by
  obtain ⟨v, r, q⟩ := cB_ok h
  have e : v = .ref (He.ga K x) := by
    cases v with
    | ref b => cases r; rfl
    | _ => first | (cases r; done) | (obtain ⟨t, z⟩ := r; cases z; done)
  rw [← e]
  exact q H O
theorem ef_gtup {X : Cx} {E : EX} {x : Str} {d : D} {pos : Pos} (T : CTup X.K x d) (hm : X.mg x = some (.ref (He.ga X.K x))) (hg : Gl X x := by rfl) (hd : (x == ("__debug__" : Str)) = false := by decide) : EF X E (.Name x pos) (mC d) :=
  ef_c (pe_glob (v := .ref (He.ga X.K x)) hg hm rfl hd) fun H O => T H O
end PP

namespace PP
open PySem PySem.Spec PyProof.Rows L2
open Res (ok exc bad)
def sParFN (i j : Nat) (f g : Sls → Res D) : Sls → Fl := fun ρ => thenF (f ρ) ρ fun x => thenF (g ρ) ρ fun y => .nx ((ρ.set i (.fz x)).set j (.ow y))
def sParNN (i j : Nat) (f g : Sls → Res D) : Sls → Fl := fun ρ => thenF (f ρ) ρ fun x => thenF (g ρ) ρ fun y => .nx ((ρ.set i (.ow x)).set j (.ow y))
theorem same_none {H H1 : Hp} {a : Addr} (e : Same H H1) (n : H1 a = none) : H a = none := by
  cases q : H a with
  | none => rfl
  | some o => rw [e a o q] at n; cases n
section
variable {X : Cx} {E : EX} {f g : Sls → Res D}
theorem ss_parFN (i j : Nat) {x y : Str} {a b : Expr} {px py pt pos : Pos} {kt k2 pt2} (ha : EF X E a f) (hb : EN X E b g) (hc : X.calm = true) (hN : X.N.Nodup) (hi : X.N[i]? = some x := by rfl) (hj : X.N[j]? = some y := by rfl) (hij : i ≠ j := by decide)
    (hx : X.env.scope.names.lookup x = some .local := by rfl) (hy : X.env.scope.names.lookup y = some .local := by rfl)
    (hw : swappedStores [.Tuple [.Name x px, .Name y py] kt pt] (.Tuple [a, b] k2 pt2) X.env = pure (some [x, y]) := by rfl)
    (hs : swapsWithSole [.Tuple [.Name x px, .Name y py] kt pt] (.Tuple [a, b] k2 pt2) pos.line X.env = pure false := by rfl) (h1 : starEach [a, b] X.env = (false, eval a X.env) :: starEach [b] X.env := by rfl) (h2 : starEach [b] X.env = (false, eval b X.env) :: starEach [] X.env := by rfl) :
    SS X E (.Assign [.Tuple [.Name x px, .Name y py] kt pt] (.Tuple [a, b] k2 pt2) pos) (sParFN i j f g) :=
  ps_imp (ps_par hc hN hi hj hij hx hy (pa_cons ha (pa_cons hb pa_nil h2) h1) hw hs) fun D σ H ⟨ρ, O, F, s, p⟩ => ⟨ρ, O, F, s, (FP.po s p).imp fun dx p1 v H1 e1 r1 =>
    ⟨ρ, O, F, s.same e1, ((FP.po s p1).imp fun dy p2 u c H2 e2 n r2 => by
      have e12 := e1.trans e2
      have n0 := same_none e1 n
      have hk := r2.2.2
      have s2 := s.add e12 n0 hk.some hk.noTup
      have nF : c ∉ F := fun h => (s.st.owned c h).2 n0
      obtain ⟨F1, g1, g2⟩ := RSt.setF ((r1.more n).same e2) i s2.st
      obtain ⟨F2, g3, g4⟩ := RSt.setO r2 j (fun z => nF (g2 _ z)) g1
      exact ⟨v, u, rfl, p2 _ H2 (Ad O c) F2 ⟨g3, s2.dom⟩ ⟨fun b o q _ => e12 b o q, fun b hb => (g4 b hb).elim (fun z => .inr (by rw [z]; exact n0)) (fun z => .inl (g2 b z)), fun b hb => .inl (.inl hb), fun b hb => hb.imp id fun z => by rw [z]; exact n0⟩⟩).later e1⟩⟩
theorem ss_parNN (i j : Nat) {x y : Str} {a b : Expr} {px py pt pos : Pos} {kt k2 pt2} (ha : EN X E a f) (hb : EN X E b g) (hc : X.calm = true) (hN : X.N.Nodup) (hi : X.N[i]? = some x := by rfl) (hj : X.N[j]? = some y := by rfl) (hij : i ≠ j := by decide)
    (hx : X.env.scope.names.lookup x = some .local := by rfl) (hy : X.env.scope.names.lookup y = some .local := by rfl)
    (hw : swappedStores [.Tuple [.Name x px, .Name y py] kt pt] (.Tuple [a, b] k2 pt2) X.env = pure (some [x, y]) := by rfl)
    (hs : swapsWithSole [.Tuple [.Name x px, .Name y py] kt pt] (.Tuple [a, b] k2 pt2) pos.line X.env = pure false := by rfl) (h1 : starEach [a, b] X.env = (false, eval a X.env) :: starEach [b] X.env := by rfl) (h2 : starEach [b] X.env = (false, eval b X.env) :: starEach [] X.env := by rfl) :
    SS X E (.Assign [.Tuple [.Name x px, .Name y py] kt pt] (.Tuple [a, b] k2 pt2) pos) (sParNN i j f g) :=
  ps_imp (ps_par hc hN hi hj hij hx hy (pa_cons ha (pa_cons hb pa_nil h2) h1) hw hs) fun D σ H ⟨ρ, O, F, s, p⟩ => ⟨ρ, O, F, s, (FP.po s p).imp fun dx p1 v c1 H1 e1 n1 r1 => by
    have hk1 := r1.2.2
    have s1 := s.add e1 n1 hk1.some hk1.noTup
    have nF1 : c1 ∉ F := fun h => (s.st.owned c1 h).2 n1
    refine ⟨ρ, Ad O c1, F, s1, ((FP.po s p1).imp fun dy p2 u c2 H2 e2 n2 r2 => ?_).later e1⟩
    have hk2 := r2.2.2
    have s2 := s1.add e2 n2 hk2.some hk2.noTup
    have n02 := same_none e1 n2
    have nF2 : c2 ∉ F := fun h => (s1.st.owned c2 h).2 n2
    have ne : c2 ≠ c1 := fun z => by rw [z] at n2; exact hk1.some n2
    obtain ⟨F1, g1, g2⟩ := RSt.setO (v := v) (d := dx) (a := c1) ⟨r1.1, .inl (.inr rfl), (hk1.more n2).same e2⟩ i nF1 s2.st
    obtain ⟨F2, g3, g4⟩ := RSt.setO r2 j (fun z => (g2 _ z).elim ne nF2) g1
    exact ⟨v, u, rfl, p2 _ H2 (Ad (Ad O c1) c2) F2 ⟨g3, s2.dom⟩ ⟨fun b o q _ => (e1.trans e2) b o q, fun b hb => (g4 b hb).elim (fun z => .inr (by rw [z]; exact n02)) (fun z => (g2 b z).elim (fun y => .inr (by rw [y]; exact n1)) .inl), fun b hb => .inl (.inl (.inl hb)), fun b hb => hb.elim (fun h => h.imp id fun z => by rw [z]; exact n1) fun z => .inr (by rw [z]; exact n02)⟩⟩⟩
end
end PP

namespace PP
open PySem PySem.Spec PyProof.Rows L2
open Res (ok exc bad)
/-! ### len of a dict too -/
def rLenX (K : PySem.W.Frag) : List V → Hp → VK → Prop := fun xs H Q => (∃ x n, xs = [x] ∧ LenV K x H n ∧ Q (.int n) H) ∨ ∃ a ob es kvs Z, xs = [.ref a] ∧ H a = some (.ext (DictAt a ob es)) ∧ RepKs K H Z es kvs ∧ keysOk kvs = true ∧ (es.map (·.1)).Nodup ∧ es.length ≤ sizeLine ∧ Q (.int kvs.length) H
theorem CallR.or' {X : Cx} {f : Value} {r r' : List V → Hp → VK → Prop} (h : CallR X f r) (h' : CallR X f r') : CallR X f (fun xs H Q => r xs H Q ∨ r' xs H Q) := by
  intro pins s σ H xs us Q I rv q
  rcases q with q | q
  · exact h pins s σ H xs us Q I rv q
  · exact h' pins s σ H xs us Q I rv q
theorem call_lenD {X : Cx} : CallR X (.builtin "len") (fun xs H Q => ∃ a ob es kvs Z, xs = [.ref a] ∧ H a = some (.ext (DictAt a ob es)) ∧ RepKs X.K H Z es kvs ∧ keysOk kvs = true ∧ (es.map (·.1)).Nodup ∧ es.length ≤ sizeLine ∧ Q (.int kvs.length) H) := by
  intro pins s σ H xs us Q I r h
  obtain ⟨a, ob, es, kvs, Z, rfl, e, rk, hk, nd, hz, q⟩ := h
  obtain ⟨h1, h2⟩ := dict_of I e rk hk nd
  rw [Vals.ref1 r]
  have hl : (PySem.pairsH es).length = es.length := pairsH_length es
  have hz' : es.length ≤ 16777216 := by rw [← sizeLine_eq]; exact hz
  refine PyProof.Rows.call_len_slot (n := es.length) h2.typeIs PySem.F.slot_dict_len (fun Q' hq => len_keyed (knd := nestedKind X.prog X.w) (kvs := PySem.pairsH es) h1 ⟨es, h2, rfl⟩ (by rw [hl]; exact hq)) (by omega) (by omega) ?_
  rw [← rk.length] at q
  exact ⟨.int es.length, H, I.tok _, ⟨_, rfl⟩, q⟩
theorem call_lenX {X : Cx} : CallR X (.builtin "len") (rLenX X.K) := CallR.or' call_len call_lenD
def dLenX : List D → Option D
  | [.dct kvs] => if keysOk kvs then some (.int kvs.length) else none
  | xs => dLen xs
theorem c_lenX {K : PySem.W.Frag} : Cl1 K (rLenX K) dLenX := by
  intro H O vs ds Q dm r q
  unfold dLenX at q
  split at q
  · rename_i kvs
    by_cases hk : keysOk kvs = true
    · rw [if_pos hk] at q
      obtain ⟨v, rfl, rv⟩ := r.one
      obtain ⟨a, ob, xs, rfl, h1, h2, h3, h4⟩ := rv.dct
      exact .inr ⟨a, ob, xs, kvs, O, rfl, h1, h4, hk, h3, h2, q _ H (Same.refl H) (.int _)⟩
    · rw [if_neg hk] at q
      exact q.elim
  · exact .inl (c_len H O vs ds Q dm r q)
end PP

namespace PP
open PySem PySem.Spec PyProof.Rows L2
open Res (ok exc bad)
def pairOk (p q : PyData) : Bool := ([p, q].all fun x => [p, q].all fun y => PySem.W.alike x y) && (!isNone p && !isNone q) && (decide (p.depth ≤ 50) && decide (q.depth ≤ 50))
theorem isNone_ok {p : PyData} (h : (!isNone p) = true) : p ≠ .none := fun z => by rw [z] at h; cases h
theorem pairOk_ok {p q : PyData} (h : pairOk p q = true) : PySem.W.AlikeAll [p, q] ∧ PyData.depthAll [p, q] ≤ 50 := by
  unfold pairOk at h
  simp only [Bool.and_eq_true, List.all_eq_true, decide_eq_true_eq] at h
  obtain ⟨⟨h1, h2, h3⟩, h4, h5⟩ := h
  refine ⟨⟨fun x hx y hy => h1 x hx y hy, fun x hx => ?_⟩, ?_⟩
  · simp only [List.mem_cons, List.not_mem_nil, or_false] at hx
    rcases hx with rfl | rfl
    · exact isNone_ok h2
    · exact isNone_ok h3
  · simp only [PyData.depthAll]
    exact Nat.max_le.mpr ⟨h4, Nat.max_le.mpr ⟨h5, Nat.zero_le _⟩⟩
section
variable {prog : Program} {w : World} {A : Around} {E : Value → Shared → Prop} {s : Shared} {a b : Value} {p q : PyData} {as bs : List Addr} {Q : Value → Shared → Prop}
/-- min(a, b): the tuple of both is walked -/
theorem min2_data (hh : A.handled = none) (ra : Reads s.heap a p as) (rb : Reads s.heap b q bs) (hk : pairOk p q = true) (hu : A.units + 65 < cLine)
    (h : ∀ h' tk, (∀ c o, s.heap.get? c = some o → h'.get? c = some o) → Q (if PySem.W.dataLt q p = true then b else a) { s with heap := h', toks := tk }) : wpAny (model prog w) A (call (.builtin "min") [a, b]) Q E s := by
  obtain ⟨al, dp⟩ := pairOk_ok hk
  have e0 : Builtin.Builtins.bindParams "min" ["key", "default"] 0 ⟨[], []⟩ = pure [none, none] := rfl
  refine call_function_tree F.kind_min F.plain_min F.entry_min (F.args_min2 a b) (wpAny_bind (wpAny_of_eq e0 (show wpAny _ A.in1 (newTuple [a, b] >>= _) _ _ s from wpAny_bind (wpAny_newObj_type ?_))))
  let t0 : Shared := { s with heap := s.heap.push { cls := .type "tuple", data := .seq #[a, b] } }
  have k0 : ∀ c o, s.heap.get? c = some o → t0.heap.get? c = some o := fun c o e => Heap.get?_push_of_some _ e
  have hT : t0.heap.IsTuple s.heap.objs.size #[a, b] := ⟨_, Heap.get?_push_size _ rfl, rfl, 0, rfl⟩
  have rs : ∃ cs, ReadsAll t0.heap (Array.toList #[a, b]) [p, q] cs := ⟨_, .cons (Reads.keeps k0 ra) (.cons (Reads.keeps k0 rb) .nil)⟩
  obtain ⟨cs, rs⟩ := rs
  refine wpAny_bind (PySem.W.iter_tupleW (A := A.in1) (s := t0) hh hT fun t1 e W st hfp hw hk1 => wpAny_bind (wpAny_newObj_type ?_))
  have k01 : ∀ c o, t0.heap.get? c = some o → t1.heap.get? c = some o := hk1
  refine wpAny_pure ⟨plainId_quiet F.plain_min_loop _, codeAny_min_loop_firstH W t0.heap hw _ (PySem.W.cmpIn_lt (A := A.in1) rs al (by show A.units + 1 + _ < _; omega)) t1.heap.objs.size (fun z => Nat.lt_irrefl _ (hfp _ z)) (fresh_in k01) _ (show 0 < 2 from by decide) (fun c o e => Heap.get?_push_of_some _ (k01 c o e)) (W.frame 0 t1 _ t1.toks st (Nat.le_refl _) fun c _ o e => Heap.get?_push_of_some _ e) (Heap.get?_push_size _ rfl) fun v s' hP hm => ?_⟩
  have m1 := Moved.drop_new (tk := t1.toks) hm (Nat.le_refl _)
  obtain ⟨h', tk, rfl, hk'⟩ := PySem.W.moved_old (s := t0) e rfl m1
  have hv : v = if PySem.W.dataLt q p = true then b else a := by
    have z : (#[a, b] : Array Value)[argBest (fun i j => PySem.W.dataLt ([p, q].getD i .none) ([p, q].getD j .none)) 1]? = some v := hP
    by_cases c : PySem.W.dataLt q p = true
    · rw [if_pos c]
      simpa [argBest, c] using z.symm
    · rw [if_neg c]
      simpa [argBest, c] using z.symm
  rw [hv]
  exact h h' tk fun c o e => hk' c o (k0 c o e)
/-- max(a, b): the tuple of both is walked -/
theorem max2_data (hh : A.handled = none) (ra : Reads s.heap a p as) (rb : Reads s.heap b q bs) (hk : pairOk p q = true) (hu : A.units + 65 < cLine)
    (h : ∀ h' tk, (∀ c o, s.heap.get? c = some o → h'.get? c = some o) → Q (if PySem.W.dataLt p q = true then b else a) { s with heap := h', toks := tk }) : wpAny (model prog w) A (call (.builtin "max") [a, b]) Q E s := by
  obtain ⟨al, dp⟩ := pairOk_ok hk
  have e0 : Builtin.Builtins.bindParams "max" ["key", "default"] 0 ⟨[], []⟩ = pure [none, none] := rfl
  refine call_function_tree F.kind_max F.plain_max F.entry_max (F.args_max2 a b) (wpAny_bind (wpAny_of_eq e0 (show wpAny _ A.in1 (newTuple [a, b] >>= _) _ _ s from wpAny_bind (wpAny_newObj_type ?_))))
  let t0 : Shared := { s with heap := s.heap.push { cls := .type "tuple", data := .seq #[a, b] } }
  have k0 : ∀ c o, s.heap.get? c = some o → t0.heap.get? c = some o := fun c o e => Heap.get?_push_of_some _ e
  have hT : t0.heap.IsTuple s.heap.objs.size #[a, b] := ⟨_, Heap.get?_push_size _ rfl, rfl, 0, rfl⟩
  have rs : ∃ cs, ReadsAll t0.heap (Array.toList #[a, b]) [p, q] cs := ⟨_, .cons (Reads.keeps k0 ra) (.cons (Reads.keeps k0 rb) .nil)⟩
  obtain ⟨cs, rs⟩ := rs
  refine wpAny_bind (PySem.W.iter_tupleW (A := A.in1) (s := t0) hh hT fun t1 e W st hfp hw hk1 => wpAny_bind (wpAny_newObj_type ?_))
  have k01 : ∀ c o, t0.heap.get? c = some o → t1.heap.get? c = some o := hk1
  refine wpAny_pure ⟨plainId_quiet F.plain_max_loop _, codeAny_max_loop_firstH W t0.heap hw _ (PySem.W.cmpIn_gt (A := A.in1) rs al (by show A.units + 1 + _ < _; omega)) t1.heap.objs.size (fun z => Nat.lt_irrefl _ (hfp _ z)) (fresh_in k01) _ (show 0 < 2 from by decide) (fun c o e => Heap.get?_push_of_some _ (k01 c o e)) (W.frame 0 t1 _ t1.toks st (Nat.le_refl _) fun c _ o e => Heap.get?_push_of_some _ e) (Heap.get?_push_size _ rfl) fun v s' hP hm => ?_⟩
  have m1 := Moved.drop_new (tk := t1.toks) hm (Nat.le_refl _)
  obtain ⟨h', tk, rfl, hk'⟩ := PySem.W.moved_old (s := t0) e rfl m1
  have hv : v = if PySem.W.dataLt p q = true then b else a := by
    have z : (#[a, b] : Array Value)[argBest (fun i j => PySem.W.dataLt ([p, q].getD j .none) ([p, q].getD i .none)) 1]? = some v := hP
    by_cases c : PySem.W.dataLt p q = true
    · rw [if_pos c]
      simpa [argBest, c] using z.symm
    · rw [if_neg c]
      simpa [argBest, c] using z.symm
  rw [hv]
  exact h h' tk fun c o e => hk' c o (k0 c o e)
end
/-! ### min(a, b), max(a, b): numbers or such data -/
def rMM (K : PySem.W.Frag) (f : PyData → PyData → Bool) : List V → Hp → VK → Prop := fun xs H Q => ∃ x y p q, xs = [x, y] ∧ Dp K H x p ∧ Dp K H y q ∧ pairOk p q = true ∧ Q (if f p q = true then y else x) H
section
variable {X : Cx}
theorem call_min2D (hc : X.calm = true) (hu : X.A.units + 65 < cLine) : CallR X (.builtin "min") (rMM X.K fun p q => PySem.W.dataLt q p) := by
  intro pins s σ H xs us Q I r h
  obtain ⟨x, y, p, q, rfl, h1, h2, h3, k⟩ := h
  obtain ⟨u, v, rfl, ru, rv⟩ := vals2 r
  obtain ⟨as, r1⟩ := Dp.reads I p x u h1 ru
  obtain ⟨bs, r2⟩ := Dp.reads I q y v h2 rv
  refine min2_data (I.ok.hd hc) r1 r2 h3 hu fun h' tk kp => ⟨_, H, I.kept kp, ?_, k⟩
  by_cases c : PySem.W.dataLt q p = true
  · simp only [c, if_true]; exact rv
  · simp only [c, if_false, Bool.false_eq_true]; exact ru
theorem call_max2D (hc : X.calm = true) (hu : X.A.units + 65 < cLine) : CallR X (.builtin "max") (rMM X.K fun p q => PySem.W.dataLt p q) := by
  intro pins s σ H xs us Q I r h
  obtain ⟨x, y, p, q, rfl, h1, h2, h3, k⟩ := h
  obtain ⟨u, v, rfl, ru, rv⟩ := vals2 r
  obtain ⟨as, r1⟩ := Dp.reads I p x u h1 ru
  obtain ⟨bs, r2⟩ := Dp.reads I q y v h2 rv
  refine max2_data (I.ok.hd hc) r1 r2 h3 hu fun h' tk kp => ⟨_, H, I.kept kp, ?_, k⟩
  by_cases c : PySem.W.dataLt p q = true
  · simp only [c, if_true]; exact rv
  · simp only [c, if_false, Bool.false_eq_true]; exact ru
end
def mm (f : PyData → PyData → Bool) (a b : D) : Option D := (toPD a).bind fun p => (toPD b).bind fun q => if pairOk p q then some (if f p q = true then b else a) else none
/-- an answer that is one of two that are not owned -/
theorem mm_go {K : PySem.W.Frag} {H : Hp} {O : Addr → Prop} {x y : V} {a b : D} {f : PyData → PyData → Bool} {Q : VK} (rx : Rep K H O x a) (ry : Rep K H O y b) (q : VP K H O Q (mm f a b)) : rMM K f [x, y] H Q := by
  unfold mm at q
  cases e1 : toPD a with
  | none => rw [e1] at q; exact q.elim
  | some p =>
    rw [e1, Option.bind_some] at q
    cases e2 : toPD b with
    | none => rw [e2] at q; exact q.elim
    | some p2 =>
      rw [e2, Option.bind_some] at q
      by_cases c : pairOk p p2 = true
      · rw [if_pos c] at q
        refine ⟨x, y, p, p2, rfl, rx.dp e1, ry.dp e2, c, ?_⟩
        by_cases d : f p p2 = true
        · rw [if_pos d]; rw [if_pos d] at q; exact q _ H (Same.refl H) ry
        · rw [if_neg d]; rw [if_neg d] at q; exact q _ H (Same.refl H) rx
      · rw [if_neg c] at q; exact q.elim
def rMinX (K : PySem.W.Frag) : List V → Hp → VK → Prop := fun xs H Q => (∃ i j, xs = [.int i, .int j] ∧ Q (.int (if j < i then j else i)) H) ∨ rMM K (fun p q => PySem.W.dataLt q p) xs H Q
def rMaxX (K : PySem.W.Frag) : List V → Hp → VK → Prop := fun xs H Q => (∃ i j, xs = [.int i, .int j] ∧ Q (.int (if j > i then j else i)) H) ∨ rMM K (fun p q => PySem.W.dataLt p q) xs H Q
theorem call_minX {X : Cx} (hc : X.calm = true) (hu : X.A.units + 65 < cLine) : CallR X (.builtin "min") (rMinX X.K) := CallR.or' (call_min2 hc) (call_min2D hc hu)
theorem call_maxX {X : Cx} (hc : X.calm = true) (hu : X.A.units + 65 < cLine) : CallR X (.builtin "max") (rMaxX X.K) := CallR.or' (call_max2 hc) (call_max2D hc hu)
/-- min, max of two that are not owned -/
def dMinX : List D → Option D
  | [.int i, .int j] => some (.int (if j < i then j else i))
  | [.tup a, .tup b] => mm (fun p q => PySem.W.dataLt q p) (.tup a) (.tup b)
  | _ => none
def dMaxX : List D → Option D
  | [.int i, .int j] => some (.int (if j > i then j else i))
  | [.tup a, .tup b] => mm (fun p q => PySem.W.dataLt p q) (.tup a) (.tup b)
  | _ => none
theorem c_minX {K : PySem.W.Frag} : Cl1 K (rMinX K) dMinX := by
  intro H O vs ds Q dm r q
  unfold dMinX at q
  split at q
  · obtain ⟨v, u, rfl, rv, ru⟩ := r.two
    exact .inl ⟨_, _, by rw [rv.int, ru.int], q _ H (Same.refl H) (.int _)⟩
  · obtain ⟨v, u, rfl, rv, ru⟩ := r.two
    exact .inr (mm_go rv.tupR ru.tupR q)
  · exact q.elim
theorem c_maxX {K : PySem.W.Frag} : Cl1 K (rMaxX K) dMaxX := by
  intro H O vs ds Q dm r q
  unfold dMaxX at q
  split at q
  · obtain ⟨v, u, rfl, rv, ru⟩ := r.two
    exact .inl ⟨_, _, by rw [rv.int, ru.int], q _ H (Same.refl H) (.int _)⟩
  · obtain ⟨v, u, rfl, rv, ru⟩ := r.two
    exact .inr (mm_go rv.tupR ru.tupR q)
  · exact q.elim
end PP

namespace PP
open PySem PySem.Spec PyProof.Rows L2
open Res (ok exc bad)
/-! ### {k: v}, k a tuple -/
def mDisp1 (f g : Sls → Res D) : Sls → Res D := fun ρ => f ρ >>= fun dk => g ρ >>= fun dv => if (keyT dk).isSome then ok (D.dct [(dk, dv)]) else bad
theorem ext_empty {P : Program} {w : World} {H : Hp} (h : Heap) (hb : sysModules < h.objs.size) : ObjOk P w H (h.push { cls := .type "dict", data := .dict #[] }) h.objs.size (.ext (DictAt h.objs.size { cls := .type "dict", data := .dict #[] } [])) :=
  ⟨⟨beq_eq_false_iff_ne.mpr (Ne.symm (Nat.ne_of_lt hb)), Heap.get?_push_size _ rfl, ⟨rfl, rfl, rfl⟩, #[], 0, rfl, fun _ => rfl⟩, ⟨_, Heap.get?_push_size _ rfl⟩, dictAt_stab⟩
abbrev ob0 : Obj := { cls := .type "dict", data := .dict #[] }
theorem noTup_ext {H : Hp} {a : Addr} {φ : Heap → Prop} (e : H a = some (.ext φ)) : NoTup H a := fun ys r => by rcases r with r | ⟨o, r⟩ <;> (rw [e] at r; cases r)
theorem en_disp1 {X : Cx} {E : EX} {ke ve : Expr} {f g : Sls → Res D} {pos : Pos} (hu : X.A.units + 65 < cLine) (hk : EF X E ke f) (hv : EF X E ve g) : EN X E (.Dict [some ke] [ve] pos) (mDisp1 f g) := ⟨fun pins s σ H Q I ⟨ρ, O, F, st, p⟩ => by
  have hn := I.hok.fresh (Nat.le_refl s.heap.objs.size)
  generalize eD : s.heap.objs.size = D0 at hn
  have I1 := I.laid (a := s.heap.objs.size) (o := .ext (DictAt s.heap.objs.size ob0 [])) (h' := s.heap.push { cls := .type "dict", data := .dict #[] }) (t' := s.toks) (fun _ _ q => Heap.get?_push_of_some _ q) (Nat.le_refl _) (ext_empty s.heap I.big)
  rw [eD] at I1
  have e1 : Same H (upd H D0 (.ext (DictAt D0 ob0 []))) := same_new hn
  have st1 := st.add e1 hn (by rw [upd_same]; exact fun z => nomatch z) (noTup_ext upd_same)
  have p1 : Po X.K E σ H (f ρ >>= fun dk => g ρ >>= fun dv => if (keyT dk).isSome then ok (D.dct [(dk, dv)]) else bad) (fun d => ∀ v a H', Same H H' → H a = none → RepN X.K H' (Ad O a) v d a → Q v H') := p
  have hsh : (evalEachOpt [some ke] X.env).zip ((evalEach [ve] X.env).map fun v => do let x ← v; standAt pos; pure x) = [(eval ke X.env, do let x ← eval ve X.env; standAt pos; pure x)].map fun p => (some p.1, p.2) := rfl
  rw [arm_eval_Dict, hsh, dictDisplay_pairs [(eval ke X.env, do let x ← eval ve X.env; standAt pos; pure x)] (List.cons_ne_nil _ _) (show 1 < 17 from by decide)]
  refine wpAny_bind (wpAny_standAt (wpAny_bind (wpAny_subDictH (knd := nestedKind X.prog X.w) (Q := fun d s' => wpAny (model X.prog X.w) X.A (pure (Value.ref d)) (EP X pins σ Q) X.xe s') (show X.A.units + 8 < cLine by omega) (show 1 ≤ 15 from by decide) ?_)))
  rw [eD]
  refine evalPairs_cons (thn (hk.run pins _ σ _ _ I1 ⟨ρ, _, F, st1, (p1.bind.imp fun dk p2 y H2 e2 ry => (show (fun y H2 => ∃ dk, Same (upd H D0 (.ext (DictAt D0 ob0 []))) H2 ∧ Rep X.K H2 (Ad O D0) y dk ∧ Po X.K E σ H (g ρ >>= fun dv => if (keyT dk).isSome then ok (D.dct [(dk, dv)]) else bad) fun d => ∀ v a H', Same H H' → H a = none → RepN X.K H' (Ad O a) v d a → Q v H') y H2 from ⟨dk, e2, ry, p2⟩)).later e1⟩) fun kv s2 ⟨y, H2, I2, ru, dk, e2, ry, p2⟩ => ?_)
  refine wpAny_bind (thn (hv.run pins s2 σ H2 _ I2 ⟨ρ, _, F, st1.same e2, (p2.bind.imp fun dv p3 z H3 e3 rz => (show (fun z H3 => ∃ dv, Same H2 H3 ∧ Rep X.K H3 (Ad O D0) z dv ∧ Po X.K E σ H (if (keyT dk).isSome then ok (D.dct [(dk, dv)]) else bad) fun d => ∀ v a H', Same H H' → H a = none → RepN X.K H' (Ad O a) v d a → Q v H') z H3 from ⟨dv, e3, rz, p3⟩)).later (e1.trans e2)⟩) fun vv s3 ⟨z, H3, I3, rv, dv, e3, rz, p3⟩ => wpAny_bind (wpAny_standAt (wpAny_pure (evalPairs_nil ?_))))
  cases kt : keyT dk with
  | none => rw [kt] at p3; exact p3.elim
  | some k =>
    rw [kt] at p3
    obtain ⟨k1, k2, ts, rfl⟩ := keyT_ok kt
    obtain ⟨b, rfl⟩ := ry.refT
    obtain rfl : kv = Value.ref b := ru
    have ry3 := ry.same e3
    have ed : H3 D0 = some (.ext (DictAt D0 ob0 [])) := e3 _ _ (e2 _ _ upd_same)
    obtain ⟨h1, h2⟩ := dict_of (O := O) (kvs := []) I3 ed .nil rfl List.nodup_nil
    refine ⟨[(k, b, vv)], ⟨rfl, rfl, ⟨nested_of I3 ry3 k1 rfl, k2⟩, trivial⟩, h2, fun h' tk dd hs => wpAny_pure ?_⟩
    have es : storedAllH [] [(k, b, vv)] = [(k, b, vv)] := rfl
    rw [es] at dd
    have rk : RepKs X.K H3 (Ad O D0) [(k, b, vv)] [(.tup ts, dv)] := .cons ry3 k1 rv rz .nil
    obtain ⟨ob2, da⟩ := dictAt_of h1 dd rk.hash
    obtain ⟨q, _, _, hq, _⟩ := id dd
    have I4 := d_write (t' := tk) (ob := .ext (DictAt D0 ob2 [(k, b, vv)])) I3 (by rw [ed]; exact True.intro) hs ⟨q, hq⟩ ⟨da, ⟨q, hq⟩, dictAt_stab⟩
    refine ⟨.ref D0, _, I4, rfl, ?_⟩
    exact p3 (.ref D0) D0 _ (fun c o e => by
      have hc : c ≠ D0 := fun z => by rw [z, hn] at e; cases e
      rw [upd_ne hc]
      exact e3 _ _ (e2 _ _ (e1 _ _ e))) hn ⟨rfl, .inr rfl, _, _, upd_same, by rw [sizeLine_eq]; exact (show 1 ≤ 16777216 from by decide), List.nodup_cons.mpr ⟨by simp, List.nodup_nil⟩, rk.upd (.inr rfl) (noTup_ext ed)⟩⟩
end PP

namespace PP
open PySem PySem.Spec PyProof.Rows L2
open Res (ok exc bad)
/-! ### a walk of a dict's keys -/
abbrev DX := List (NestedKey × Addr × Value)
def Itx (a : Addr) (ob : Obj) (xs : DX) : It := ⟨fun i H => H a = some (.ext (DictAt a ob xs)) ∧ i < xs.length, fun i H v H' => H' = H ∧ ∃ x, xs[i]? = some x ∧ v = V.ref x.2.1, fun i H => H a = some (.ext (DictAt a ob xs)) ∧ xs.length ≤ i⟩
theorem raw_of {X : Cx} {pins : List (Addr × Obj)} {σ : L2.St} {H : Hp} {s : Shared} {a : Addr} {ob : Obj} {xs : DX} (I : Inv X pins σ H s) (e : H a = some (.ext (DictAt a ob xs))) {es : Array DictEntry} {ep : Nat} (hod : ob.data = .dict es ep) :
    (a == sysModules) = false ∧ s.heap.DictRaw a es ep ∧ es.size = xs.length ∧ ∀ i (hi : i < es.size), ∃ x, xs[i]? = some x ∧ es[i].key = .ref x.2.1 := by
  obtain ⟨⟨h1, h2, h3, es', ep', h4, h5⟩, _⟩ := (show ObjOk X.prog X.w H s.heap a (.ext (DictAt a ob xs)) from I.hok a _ e)
  rw [hod] at h4
  cases h4
  have h6 := h5 X.w
  have hl : es.size = xs.length := by rw [← Array.length_toList, h6, List.length_map]
  refine ⟨h1, ⟨ob, h2, h3, hod⟩, hl, fun i hi => ?_⟩
  have hx : i < xs.length := by omega
  refine ⟨xs[i], List.getElem?_eq_getElem hx, ?_⟩
  have q : es.toList[i]? = (xs.map fun x => (⟨x.1.hash X.w, .ref x.2.1, x.2.2⟩ : DictEntry))[i]? := by rw [h6]
  rw [Array.getElem?_toList, Array.getElem?_eq_getElem hi, List.getElem?_map, List.getElem?_eq_getElem hx] at q
  have q2 := Option.some.inj q
  rw [q2]
theorem turn_x {P : Program} {w : World} {K : PySem.W.Frag} {tg : Expr} {a : Addr} {ob : Obj} {xs : DX} {es : Array DictEntry} {ep : Nat} (it : Addr) (hod : ob.data = .dict es ep) : Turn P w K tg (Itx a ob xs) [it] it (fun i h => h.IsKeyIter it a i (List.replicate es.size (([] : List Key), V.non)).length ep) :=
  have T0 := turn_keysT (P := P) (w := w) (K := K) (tg := tg) (d := a) (o := ob) (kvs := List.replicate es.size (([] : List Key), V.non)) it hod
  { mem := T0.mem, obj := T0.obj, keep := T0.keep, self := T0.self
    item := by
      intro X hP hw hK hc i pins s σ H E I hf st hg
      subst hP hw hK
      obtain ⟨f0, f1, f2, f3, f4, f5⟩ := hf it (by simp)
      obtain ⟨h1, h2, h3, h4⟩ := raw_of I hg.1 hod
      rw [List.length_replicate] at st
      have hi : i < es.size := by have := hg.2; omega
      obtain ⟨x, x1, x2⟩ := h4 i hi
      refine wpAny_pyNext_keys_item_raw st h2 hi fun h' st' sb => ⟨_, rfl, ?_⟩
      have I1 : Inv X pins σ H { s with heap := h' } := I.turned (t' := s.toks) (fun c o hc e => (sb.2 c hc).trans e) f0 f1 f3 f4 f5
      obtain ⟨oi, e, c, dd⟩ := id st'
      rw [x2]
      exact go_of (s := { s with heap := h' }) e c dd (by decide) ⟨.ref x.2.1, H, I1, rfl, ⟨rfl, x, x1, rfl⟩, by rw [List.length_replicate]; exact st', fun b hb => (hf b hb).1⟩
    done := by
      intro X hP hw hK hc i pins s σ H E I hf st hg
      subst hP hw hK
      obtain ⟨f0, f1, f2, f3, f4, f5⟩ := hf it (by simp)
      obtain ⟨h1, h2, h3, h4⟩ := raw_of I hg.1 hod
      rw [List.length_replicate] at st
      exact wpAny_pyNext_keys_end_raw (I.ok.hd hc) st h2 (by have := hg.2; omega) fun h' eb => ⟨rfl, I.turned (t' := s.toks) (fun c o hc e => eb c o hc e) f0 f1 f3 f4 f5⟩ }
section
variable {X : Cx} {E : EX} {e tg : Expr} {f : Sls → Res D}
def iDct (te : TE) : TI := fun σ H R => te σ H fun x H1 => ∃ a ob xs, x = .ref a ∧ H1 a = some (.ext (DictAt a ob xs)) ∧ R (Itx a ob xs) H1
theorem pi_dct {te : TE} (he : PE X e te) : PI X tg e (iDct te) := by
  refine ⟨fun pins s σ H R I h => ?_⟩
  refine thn (he.run pins s σ H _ I h) fun u s1 ⟨x, H1, I1, rx, a, ob, xs, ex, e1, q⟩ => ?_
  subst ex
  obtain rfl : u = Value.ref a := rx
  obtain ⟨⟨h1, h2, h3, es, ep, h4, h5⟩, _⟩ := (show ObjOk X.prog X.w H1 s1.heap a (.ext (DictAt a ob xs)) from I1.hok a _ e1)
  refine wpAny_pyIter_dict_raw h1 ⟨ob, h2, h3, h4⟩ (pi_one (tk := s1.toks) I1 _ (turn_x _ h4) ⟨_, Heap.get?_push_size _ rfl, rfl, ?_⟩ q)
  rw [List.length_replicate]
  rfl
end
theorem RepKs.getK {K : PySem.W.Frag} {H : Hp} {O : Addr → Prop} : ∀ {xs : DX} {kvs : List (D × D)} {i : Nat} {d : D}, RepKs K H O xs kvs → (kvs.map (·.1))[i]? = some d → ∃ x, xs[i]? = some x ∧ Rep K H O (.ref x.2.1) d
  | _, _, _, _, .nil, e => by simp at e
  | _, _, 0, _, .cons r _ _ _ _, e => by
    simp at e
    subst e
    exact ⟨_, rfl, r⟩
  | _, _, i + 1, _, .cons _ _ _ _ t, e => by
    obtain ⟨x, h1, h2⟩ := RepKs.getK (i := i) t (by simpa using e)
    exact ⟨x, by simpa using h1, h2⟩
theorem wk_dct {K : PySem.W.Frag} {H : Hp} {O : Addr → Prop} {a : Addr} {ob : Obj} {xs : DX} {kvs : List (D × D)} (d : Dom H O) (h : H a = some (.ext (DictAt a ob xs))) (n : ¬ O a) (r : RepKs K H O xs kvs) : Wk K (Itx a ob xs) (kvs.map (·.1)) H O := by
  intro H2 O2 l i
  have h2 := (l _ _ h n).1
  have r2 := r.later d l
  refine ⟨fun x e => ?_, fun hi => ⟨h2, by rw [r.length]; simpa using hi⟩⟩
  obtain ⟨y, y1, y2⟩ := r2.getK e
  refine ⟨⟨h2, (List.getElem?_eq_some_iff.mp y1).1⟩, fun v H3 ⟨e3, z, z1, z2⟩ => ?_⟩
  subst e3 z2
  rw [y1] at z1
  cases z1
  exact ⟨Same.refl _, y2⟩
def mItD (f : Sls → Res D) : Sls → Res (List D) := fun ρ => f ρ >>= fun d => match d with
  | .dct kvs => ok (kvs.map (·.1))
  | _ => bad
theorem ei_dct {X : Cx} {E : EX} {e tg : Expr} {f : Sls → Res D} (he : EF X E e f) : EI X E tg e (mItD f) := pi_imp (pi_dct he) fun σ H R ⟨ρ, O, F, s, p⟩ => ⟨ρ, O, F, s, p.bind.imp fun d p1 v H1 e1 r1 => by
  have dm := (s.same e1).dom
  cases d with
  | dct kvs =>
    cases r1 with
    | dct h n z q r => exact ⟨_, _, _, rfl, h, p1 _ H1 e1 (by rw [List.length_map, ← r.length]; exact z) (wk_dct dm h n r)⟩
  | _ => exact p1.elim⟩
end PP

namespace PP
open PySem PySem.Spec PyProof.Rows L2
open Res (ok exc bad)
/-! ### min of a dict's keys -/
abbrev btP (ps : List PyData) : Nat → Nat → Bool := fun i j => PySem.W.dataLt (ps.getD i .none) (ps.getD j .none)
def rMinDct (K : PySem.W.Frag) : List V → Hp → VK → Prop := fun vs H Q => ∃ a ob xs kvs Z ps, vs = [V.ref a] ∧ H a = some (.ext (DictAt a ob xs)) ∧ RepKs K H Z xs kvs ∧ toPDs (kvs.map (·.1)) = some ps ∧ PySem.W.AlikeAll ps ∧ PyData.depthAll ps ≤ 50 ∧ 0 < xs.length ∧
  ∀ x, xs[argBest (btP ps) (xs.length - 1)]? = some x → Q (.ref x.2.1) H
theorem dp_at {K : PySem.W.Frag} {H : Hp} {O : Addr → Prop} : ∀ {xs : DX} {kvs : List (D × D)} {ps : List PyData} {i : Nat} {x : NestedKey × Addr × Value}, RepKs K H O xs kvs → toPDs (kvs.map (·.1)) = some ps → xs[i]? = some x → Dp K H (.ref x.2.1) (ps.getD i .none) ∧ i < ps.length
  | _, _, _, _, _, .nil, _, e => by simp at e
  | _, _, ps, 0, _, .cons r _ _ _ _, e, e2 => by
    simp only [List.map_cons, toPDs, Option.bind_eq_some_iff, Option.map_eq_some_iff] at e
    obtain ⟨p, e1, qs, e3, rfl⟩ := e
    cases e2
    exact ⟨r.dp e1, by simp⟩
  | _, _, ps, i + 1, _, .cons _ _ _ _ t, e, e2 => by
    simp only [List.map_cons, toPDs, Option.bind_eq_some_iff, Option.map_eq_some_iff] at e
    obtain ⟨p, e1, qs, e3, rfl⟩ := e
    obtain ⟨h1, h2⟩ := dp_at (i := i) t e3 (by simpa using e2)
    exact ⟨by simpa using h1, by simpa using h2⟩
theorem depth_le {p : PyData} : ∀ {ps : List PyData}, p ∈ ps → p.depth ≤ PyData.depthAll ps
  | q :: ps, h => by
    simp only [PyData.depthAll]
    rcases List.mem_cons.mp h with e | e
    · rw [e]; exact Nat.le_max_left _ _
    · exact Nat.le_trans (depth_le e) (Nat.le_max_right _ _)
theorem getD_mem {ps : List PyData} {i : Nat} (h : i < ps.length) : ps.getD i .none ∈ ps := by
  rw [List.getD_eq_getElem?_getD, List.getElem?_eq_getElem h]
  exact List.getElem_mem h
theorem call_minDct {X : Cx} (hc : X.calm = true) (hu : X.A.units + 65 < cLine) : CallR X (.builtin "min") (rMinDct X.K) := by
  intro pins s σ H vs us Q I r h
  obtain ⟨a, ob, xs, kvs, Z, ps, rfl, e, rk, ep, al, dp, h0, k⟩ := h
  rw [Vals.ref1 r]
  obtain ⟨⟨h1, h2, h3, es, epp, h4, h5⟩, _⟩ := (show ObjOk X.prog X.w H s.heap a (.ext (DictAt a ob xs)) from I.hok a _ e)
  obtain ⟨_, hr, hl, hk⟩ := raw_of I e h4
  have hlt : a < s.heap.objs.size := Heap.lt_size h2
  refine call_min_walkH (wpAny_pyIter_dict_raw (A := X.A.in1) h1 hr ?_)
  refine ⟨_, [s.heap.objs.size, a], [s.heap.objs.size], _, es.size, _, _, s.heap, btP ps, rfl, (Walks.rawKeys (A := X.A.in1) (I.ok.hd hc) s.heap.objs.size a (Nat.ne_of_lt hlt) es epp).toS, ⟨⟨_, Heap.get?_push_size _ rfl, rfl, rfl⟩, hr.at fun o q => Heap.get?_push_of_some _ q⟩, fun b hb => ?_, by omega, fun b o q hb => ?_, fun b o q => Heap.get?_push_of_some _ q, fun i j vi vj s' Q' E' kp ⟨hi, ei⟩ ⟨hj, ej⟩ hq => ?_, fun v s' ⟨hi, ev⟩ m => ?_⟩
  · show b < (s.heap.push _).objs.size
    rw [Heap.size_push]
    simp only [List.mem_cons, List.not_mem_nil, or_false] at hb
    rcases hb with rfl | rfl
    · exact Nat.lt_succ_self _
    · exact Nat.lt_succ_of_lt hlt
  · exact absurd (Heap.lt_size q) ((List.mem_singleton.mp hb) ▸ Nat.lt_irrefl _)
  · obtain ⟨x, x1, x2⟩ := hk i hi
    obtain ⟨y, y1, y2⟩ := hk j hj
    obtain ⟨d1, l1⟩ := dp_at rk ep x1
    obtain ⟨d2, l2⟩ := dp_at rk ep y1
    obtain ⟨as, r1⟩ := Dp.reads I _ _ _ d1 rfl
    obtain ⟨bs, r2⟩ := Dp.reads I _ _ _ d2 rfl
    rw [ei, ej, x2, y2]
    have m1 := getD_mem l1
    have m2 := getD_mem l2
    refine PySem.W.rcLt_alike _ _ X.A.in1 s' _ _ _ _ (Reads.keeps kp r1) (Reads.keeps kp r2) (al.1 _ m1 _ m2) (al.2 _ m1) ?_ X.prog X.w E' Q' hq
    have := depth_le m1
    have := Nat.min_le_left (ps.getD i .none).depth (ps.getD j .none).depth
    show X.A.units + 1 + _ < cLine
    omega
  · obtain ⟨h', tk, rfl, hk'⟩ := PySem.W.moved_old (s := s) rfl rfl m
    obtain ⟨x, x1, x2⟩ := hk _ hi
    rw [ev, x2]
    rw [hl] at x1
    exact ⟨.ref x.2.1, H, I.kept hk', rfl, k x x1⟩
def dMinD : List D → Option D
  | [.dct kvs] => (toPDs (kvs.map (·.1))).bind fun ps => if (ps.all fun x => ps.all fun y => PySem.W.alike x y) && (ps.all fun x => !isNone x) && decide (PyData.depthAll ps ≤ 50) then (kvs.map (·.1))[argBest (btP ps) (kvs.length - 1)]? else none
  | _ => none
theorem c_minD {K : PySem.W.Frag} : Cl1 K (rMinDct K) dMinD := by
  intro H O vs ds Q dm r q
  unfold dMinD at q
  split at q
  · rename_i kvs
    obtain ⟨v, rfl, rv⟩ := r.one
    obtain ⟨a, ob, xs, rfl, h1, h2, h3, h4⟩ := rv.dct
    cases e : toPDs (kvs.map (·.1)) with
    | none => rw [e] at q; exact q.elim
    | some ps =>
      rw [e, Option.bind_some] at q
      by_cases c : ((ps.all fun x => ps.all fun y => PySem.W.alike x y) && (ps.all fun x => !isNone x) && decide (PyData.depthAll ps ≤ 50)) = true
      · rw [if_pos c] at q
        simp only [Bool.and_eq_true, List.all_eq_true, decide_eq_true_eq] at c
        obtain ⟨⟨c1, c2⟩, c3⟩ := c
        cases g : (kvs.map (·.1))[argBest (btP ps) (kvs.length - 1)]? with
        | none => rw [g] at q; exact q.elim
        | some d =>
          rw [g] at q
          obtain ⟨x, x1, x2⟩ := h4.getK g
          refine ⟨a, ob, xs, kvs, O, ps, rfl, h1, h4, e, ⟨fun x hx y hy => c1 x hx y hy, fun x hx => isNone_ok (c2 x hx)⟩, c3, Nat.lt_of_le_of_lt (Nat.zero_le _) (List.getElem?_eq_some_iff.mp x1).1, fun y y1 => ?_⟩
          rw [h4.length] at y1
          rw [x1] at y1
          cases y1
          exact q _ H (Same.refl H) x2
      · rw [if_neg c] at q; exact q.elim
  · exact q.elim
end PP

namespace PP
open PySem PySem.Spec PyProof.Rows L2
open Res (ok exc bad)
/-! ### xs.extend([..]) -/
def sExt (i : Nat) (f : Sls → Res D) : Sls → Fl := fun ρ => match ρ[i]? with
  | some (.ow (.lst ds)) => thenF (f ρ) ρ fun d => (match d with
    | .lst es => if ds.length + es.length ≤ sizeLine then .nx (ρ.set i (.ow (.lst (ds ++ es)))) else .bad
    | _ => .bad)
  | _ => .bad
theorem ext_reads {Kf : PySem.W.Frag} {E : EX} {i : Nat} {f : Sls → Res D} {D' : Ends} {σ : L2.St} {H : Hp} (hq : tSS Kf E (sExt i f) D' σ H) : tDrop (tBM Kf "list" rExtend (tVar i) (tCons (tEN Kf E f) tNil)) D' σ H := by
  obtain ⟨ρ, O, F, s, p⟩ := hq
  unfold sExt at p
  split at p
  · rename_i ds e
    obtain ⟨a, e1, hF, hO, vs, e2, z, r⟩ := s.st.getO e
    refine ⟨_, e1, .inl ⟨rfl, vs, .of e2⟩, ρ, O, F, s, (FP.po s p).imp fun d p1 v c H1 eH n r1 => ?_⟩
    have s1 := s.same eH
    have e3 := eH _ _ e2
    obtain ⟨rfl, _, hk1⟩ := r1
    cases d with
    | lst es =>
      obtain ⟨zs, e4, z4, r4⟩ := hk1
      by_cases hl : ds.length + es.length ≤ sizeLine
      · simp only [] at p1
        rw [if_pos hl] at p1
        have r5 : Reps Kf H1 O zs es := r4.less fun _ q => .inl q
        refine ⟨a, c, vs, zs, rfl, rfl, e3, e4, by rw [r.length, r5.length]; exact hl, ?_⟩
        have hT := noTup_lst e3
        have hk : RepK Kf (upd H1 a (.lst (vs ++ zs))) O a (.lst (ds ++ es)) := ⟨_, upd_same, by rw [List.length_append, r.length, r5.length]; exact hl, ((r.same eH).append r5).upd hO hT⟩
        refine p1 _ _ O F ⟨RSt.updAt hO hT hk e e1 s1.st, fun b hb => ?_⟩ ⟨fun b o q m => ?_, fun b hb => .inl hb, fun b hb => .inl hb, fun b hb => .inl hb⟩
        · by_cases hba : b = a
          · subst hba; exact ⟨by rw [upd_same]; exact fun z => (nomatch z), noTup_lst upd_same⟩
          · obtain ⟨d1, d2⟩ := s1.dom b hb
            exact ⟨by rw [upd_ne hba]; exact d1, fun ys q => d2 ys (by rcases q with q | ⟨o, q⟩ <;> rw [upd_ne hba] at q; exact .inl q; exact .inr ⟨o, q⟩)⟩
        · rw [upd_ne (fun z => m (by rw [z]; exact hF))]
          exact eH _ _ q
      · simp only [] at p1
        rw [if_neg hl] at p1
        exact p1.elim
    | _ => exact p1.elim
  · exact p.elim
theorem ss_ext (i : Nat) {X : Cx} {E : EX} {e : Expr} {f : Sls → Res D} {x : Str} {px apos cpos spos : Pos} (he : EN X E e f) (hN : X.N[i]? = some x := by rfl) (hv : Vis X.env.scope x := by first | exact Or.inl rfl | exact Or.inr (Or.inl rfl) | exact Or.inr (Or.inr rfl)) (hd : (x == ("__debug__" : Str)) = false := by decide)
    (hcd : (x == ("__classdict__" : Str)) = false := by decide)
    (hbase : attributeBase (.Name x px) "extend" X.env (eval (.Name x px) X.env) = eval (.Name x px) X.env := by rfl)
    (hfew : ((backTo cpos (starEach [e] X.env)).all (fun x => !x.1) && (backToKw cpos (keywordEach [] X.env)).all (fun x => x.1.isSome)
      && decide (([e] : List Expr).length + ([] : List Keyword).length + (if ([] : List Keyword).isEmpty then 0 else 1) < 30)) = true := by rfl)
    (hline : (apos.endLine == cpos.line) = true := by rfl) (hs : starEach [e] X.env = (false, eval e X.env) :: starEach [] X.env := by rfl) (hplain : (backTo cpos (starEach [] X.env)).any (·.1) = false := by rfl)
    (hsw : swapsWith (.Call (.Attribute (.Name x px) "extend" apos) [e] [] cpos) none spos.line X.env = pure false := by rfl) :
    SS X E (.Expr (.Call (.Attribute (.Name x px) "extend" apos) [e] [] cpos) spos) (sExt i f) :=
  ps_imp (ps_expr (pe_bm PySem.F.plainAttrs_list PySem.F.slot_list_extend PySem.F.type_list_extend mt_extend (pe_var hN hv hd hcd) (pa_cons he pa_nil hs) hbase hfew hline hs hplain) hsw) fun D σ H hq => ext_reads hq
/-! ### [..] * n -/
def dRepL : D → D → Option D
  | .lst xs, .int k => if 0 ≤ k ∧ k ≤ 1000 ∧ xs.length ≤ 1000 then some (.lst (List.replicate k.toNat xs).flatten) else none
  | _, _ => none
theorem reps_rep {K : PySem.W.Frag} {H : Hp} {O : Addr → Prop} {vs : List V} {ds : List D} (r : Reps K H O vs ds) : ∀ n : Nat, Reps K H O (List.replicate n vs).flatten (List.replicate n ds).flatten
  | 0 => .nil
  | n + 1 => by
    rw [List.replicate_succ, List.replicate_succ, List.flatten_cons, List.flatten_cons]
    exact r.append (reps_rep r n)
theorem len_rep {α : Type} (xs : List α) (n : Nat) : (List.replicate n xs).flatten.length = xs.length * n := by
  induction n with
  | zero => simp
  | succ n ih => rw [List.replicate_succ, List.flatten_cons, List.length_append, ih, Nat.mul_succ]; omega
def rRepA : R2 := fun x y H Q => ∃ l k xs, x = V.ref l ∧ y = .int k ∧ H l = some (.lst xs) ∧ -(2 ^ 63) ≤ k ∧ k < 2 ^ 63 ∧ xs.length * k.toNat ≤ sizeLine ∧ ∀ p, H p = none → Q (.ref p) (upd H p (.lst (List.replicate k.toNat xs).flatten))
end PP

namespace PP
open PySem PySem.Spec PyProof.Rows L2
open Res (ok exc bad)
/-! ### xs.pop() as the last argument of a call that a for goes over -/
theorem Reps.dropLast {K : PySem.W.Frag} {H : Hp} {O : Addr → Prop} : ∀ {vs : List V} {ds : List D}, Reps K H O vs ds → Reps K H O vs.dropLast ds.dropLast
  | _, _, .nil => .nil
  | [_], [_], .cons _ .nil => .nil
  | _ :: _ :: _, _ :: _ :: _, .cons r (.cons r2 t) => .cons r (Reps.dropLast (.cons r2 t))
def popSl (i : Nat) (ρ : Sls) : Option (Sls × D) := match ρ[i]? with
  | some (.ow (.lst ds)) => match ds[ds.length - 1]? with
    | some d => some (ρ.set i (.ow (.lst ds.dropLast)), d)
    | none => none
  | _ => none
theorem pop_reads {K : PySem.W.Frag} {i : Nat} {ρ ρ' : Sls} {d : D} {O : Addr → Prop} {F : List Addr} {σ : L2.St} {H : Hp} {Q : VK} (s : Sta K H O σ ρ F) (h : popSl i ρ = some (ρ', d))
    (q : ∀ v H', Sta K H' O σ ρ' F → Tr H O F H' O F → Rep K H' O v d → (∀ w e, Rep K H O w e → Rep K H' O w e) → Q v H') : tBM0 K "list" rPop (tVar i) σ H Q := by
  unfold popSl at h
  split at h
  · rename_i ds e
    split at h
    · rename_i d0 hd
      cases h
      obtain ⟨a, e1, hF, hO, vs, e2, z, r⟩ := s.st.getO e
      obtain ⟨y, hy, ry⟩ := r.get hd
      have hT := noTup_lst e2
      refine ⟨_, e1, .inl ⟨rfl, vs, .of e2⟩, a, vs, y, rfl, rfl, e2, by rw [r.length]; exact hy, ?_⟩
      have r2 : Reps K H O vs.dropLast ds.dropLast := r.dropLast
      have hk : RepK K (upd H a (.lst vs.dropLast)) O a (.lst ds.dropLast) := ⟨_, upd_same, by rw [List.length_dropLast]; exact Nat.le_trans (Nat.sub_le _ _) z, r2.upd hO hT⟩
      refine q y _ ⟨RSt.updAt hO hT hk e e1 s.st, fun b hb => ?_⟩ ⟨fun b o q m => ?_, fun b hb => .inl hb, fun b hb => .inl hb, fun b hb => .inl hb⟩ (ry.upd hO hT) fun w e r => r.upd hO hT
      · by_cases hba : b = a
        · subst hba; exact ⟨by rw [upd_same]; exact fun z => (nomatch z), noTup_lst upd_same⟩
        · obtain ⟨d1, d2⟩ := s.dom b hb
          exact ⟨by rw [upd_ne hba]; exact d1, fun ys q => d2 ys (by rcases q with q | ⟨o, q⟩ <;> rw [upd_ne hba] at q; exact .inl q; exact .inr ⟨o, q⟩)⟩
      · rw [upd_ne (fun z => m (by rw [z]; exact hF))]
        exact q
    · cases h
  · cases h
/-! ### a for over an iterable whose reading changes a slot -/
def tEIS (K : PySem.W.Frag) (f : Sls → Option (Sls × List D)) : TI := fun σ H R => ∃ ρ O F, Sta K H O σ ρ F ∧ ∃ ρ1 ds, f ρ = some (ρ1, ds) ∧ ∀ J H1, Sta K H1 O σ ρ1 F → Tr H O F H1 O F → ds.length ≤ sizeLine → Wk K J ds H1 O → R J H1
abbrev EIS (X : Cx) (tg iter : Expr) (f : Sls → Option (Sls × List D)) : Prop := PI X tg iter (tEIS X.K f)
def sForS (it : Sls → Option (Sls × List D)) (t : TgF) (body : Sls → Fl) : Sls → Fl := fun ρ => match it ρ with
  | some (ρ1, xs) => forL (fun x ρ => thenF (t x ρ).quiet ρ body) xs ρ1
  | none => .bad
section
variable {X : Cx} {E : EX} {s1 : Sls → Fl} {pos : Pos}
theorem ss_forS {tg iter : Expr} {body : List Stmt} {it : Sls → Option (Sls × List D)} {g : L2.TG} {t : TgF} {vs : List Nat} (hp : PassesOwn (model X.prog X.w) X.A X.env X.xe) (hc : X.calm = true) (hi : EIS X tg iter it) (hg : PG X tg g) (hgt : PP.TG X.K g t vs) (hb : SSs X E body s1)
    (hs : ∀ x, foldedSetIterable iter X.env x = pure x := by intro _; rfl) : SS X E (.For tg iter body [] pos) (sForS it t s1) :=
  ps_imp (ps_for hp hc hi hg hb hs) fun D σ H ⟨ρ, O, F, s, p⟩ => by
    unfold sForS at p
    cases hit : it ρ with
    | none => rw [hit] at p; exact p.elim
    | some z =>
    obtain ⟨ρ1, xs⟩ := z
    rw [hit] at p
    refine ⟨ρ, O, F, s, ρ1, xs, hit, fun J H1 s0 t0 hz hw => ?_⟩
    have p1 : FP X.K E D H1 O F (forL (fun x ρ => thenF (t x ρ).quiet ρ s1) xs ρ1) := FP.later s t0 p
    refine ⟨fun i m σ2 H2 => m + i = xs.length ∧ ∃ ρ2 O2 F2, Sta X.K H2 O2 σ2 ρ2 F2 ∧ Tr H1 O F H2 O2 F2 ∧ FP X.K E D H2 O2 F2 (forL (fun x ρ => thenF (t x ρ).quiet ρ s1) (xs.drop i) ρ2), ⟨xs.length, by omega, ρ1, O, F, s0, .refl, by simpa using p1⟩, ?_⟩
    rintro i m σ2 H2 ⟨hm, ρ2, O2, F2, s2, t2, p2⟩
    obtain ⟨w1, w2⟩ := hw H2 O2 (t2.later s0) i
    by_cases hi : i < xs.length
    · have hdrop : xs.drop i = xs[i] :: xs.drop (i + 1) := List.drop_eq_getElem_cons hi
      rw [hdrop] at p2
      obtain ⟨go, yl⟩ := w1 xs[i] (List.getElem?_eq_getElem hi)
      refine .inr ⟨go, fun σ3 H3 => ∃ ρ3 O3 F3, Sta X.K H3 O3 σ3 ρ3 F3 ∧ Tr H1 O F H3 O3 F3 ∧ FP X.K E D H3 O3 F3 (forL (fun x ρ => thenF (t x ρ).quiet ρ s1) (xs.drop (i + 1)) ρ3), fun σ3 H3 q => ⟨m - 1, by omega, by omega, q⟩, fun x H3 hy => ?_⟩
      obtain ⟨e3, rx⟩ := yl x H3 hy
      have s3 := s2.same e3
      refine hgt.run H3 O2 x xs[i] σ2 ρ2 F2 _ s3 rx ?_
      have p3 : FP X.K E D H2 O2 F2 (match thenF (t xs[i] ρ2).quiet ρ2 s1 with
        | .nx ρ' => forL (fun x ρ => thenF (t x ρ).quiet ρ s1) (xs.drop (i + 1)) ρ'
        | .ct ρ' => forL (fun x ρ => thenF (t x ρ).quiet ρ s1) (xs.drop (i + 1)) ρ'
        | .bk ρ' => .nx ρ'
        | .rt d => .rt d
        | .exc c ρ' => .exc c ρ'
        | .bad => .bad) := p2
      cases q : t xs[i] ρ2 with
      | exc c => rw [q] at p3; exact p3.elim
      | bad => rw [q] at p3; exact p3.elim
      | ok ρ4 =>
        rw [q] at p3
        intro σ4 F4 s4 sub
        have t24 : Tr H2 O2 F2 H3 O2 F4 := .sub sub e3
        refine ⟨ρ4, O2, F4, s4, ?_⟩
        have p4 : FP X.K E D H3 O2 F4 (match s1 ρ4 with
          | .nx ρ' => forL (fun x ρ => thenF (t x ρ).quiet ρ s1) (xs.drop (i + 1)) ρ'
          | .ct ρ' => forL (fun x ρ => thenF (t x ρ).quiet ρ s1) (xs.drop (i + 1)) ρ'
          | .bk ρ' => .nx ρ'
          | .rt d => .rt d
          | .exc c ρ' => .exc c ρ'
          | .bad => .bad) := FP.later s2 t24 p3
        have t14 := t2.trans s0 t24
        cases q5 : s1 ρ4 with
        | nx ρ5 => rw [q5] at p4; exact fun σ5 H5 O5 F5 s5 t5 => ⟨ρ5, O5, F5, s5, t14.trans s0 t5, FP.later s4 t5 p4⟩
        | ct ρ5 => rw [q5] at p4; exact fun σ5 H5 O5 F5 s5 t5 => ⟨ρ5, O5, F5, s5, t14.trans s0 t5, FP.later s4 t5 p4⟩
        | bk ρ5 => rw [q5] at p4; exact p4
        | rt d => rw [q5] at p4; exact p4
        | exc c ρ5 => rw [q5] at p4; exact p4
        | bad => rw [q5] at p4; exact p4
    · rw [List.drop_eq_nil_of_le (by omega)] at p2
      exact .inl ⟨w2 (by omega), p2 σ2 H2 O2 F2 s2 .refl⟩
/-! ### f(a, x.pop()) -/
def mPop2 (F : List D → Res D) (f : Sls → Res D) (i : Nat) : Sls → Option (Sls × List D) := fun ρ => match f ρ with
  | .ok x => match popSl i ρ with
    | some (ρ1, y) => match F [x, y] with
      | .ok (.tup ds) => some (ρ1, ds)
      | .ok (.lst ds) => some (ρ1, ds)
      | _ => none
    | none => none
  | _ => none
theorem Tr.same' {H H1 : Hp} {O : Addr → Prop} {F : List Addr} (e : Same H H1) : Tr H O F H1 O F := .same e
variable {CX : CXT} {n : Nat} {fa : Addr} {fd : FuncData} {ps : List Str} {x y : Str} {p p1 p2 p3 : Pos} {F : List D → Res D} {tg a : Expr} {f : Sls → Res D}
theorem pop_call {G : EX} {K : PySem.W.Frag} {i : Nat} {σ : L2.St} {H : Hp} {R : It → Hp → Prop} (hq : tEIS K (mPop2 F f i) σ H R) :
    iAny K (tCallS (spF K F) G (tCons (tEF K G f) (tCons (tBM0 K "list" rPop (tVar i)) tNil))) σ H R := by
  obtain ⟨ρ, O, FF, s, ρ1, ds, h, q⟩ := hq
  unfold mPop2 at h
  cases e1 : f ρ with
  | exc c => rw [e1] at h; cases h
  | bad => rw [e1] at h; cases h
  | ok dx =>
  rw [e1] at h
  cases e2 : popSl i ρ with
  | none => rw [e2] at h; cases h
  | some z =>
  obtain ⟨ρ2, dy⟩ := z
  rw [e2] at h
  refine ⟨ρ, O, FF, s, ?_⟩
  rw [e1]
  intro v H1 eH rv
  refine pop_reads (s.same eH) e2 fun w H2 s2 t2 rw2 keep => ?_
  refine ⟨[dx, dy], O, .cons (keep _ _ rv) (.cons rw2 .nil), s2.dom, ?_⟩
  have t02 : Tr H O FF H2 O FF := (Tr.same eH).trans s t2
  cases e3 : F [dx, dy] with
  | exc c => simp only [e3] at h; cases h
  | bad => simp only [e3] at h; cases h
  | ok r =>
  simp only [e3] at h ⊢
  intro u H3 e3 ru
  have t03 : Tr H O FF H3 O FF := t02.trans s (.same e3)
  have s3 := s2.same e3
  cases r with
  | tup es =>
    simp only [Option.some.injEq, Prod.mk.injEq] at h
    obtain ⟨h1, h2⟩ := h
    subst h1 h2
    cases ru with
    | tup h z r => exact .inr (.inl ⟨_, _, rfl, h, q _ H3 s3 t03 (by rw [← r.length]; exact z) (wk_tup s3.dom h r)⟩)
  | lst es =>
    simp only [Option.some.injEq, Prod.mk.injEq] at h
    obtain ⟨h1, h2⟩ := h
    subst h1 h2
    cases ru with
    | lst h n z r => exact .inl ⟨_, _, rfl, .inl h, q _ H3 s3 t03 (by rw [← r.length]; exact z) (wk_list s3.dom (.inl ⟨h, n⟩) r)⟩
  | _ => simp at h
theorem ei_pop2 (i : Nat) (G : FnOk X.prog X.w X.K X.mg X.base CX n fa fd ps (spF X.K F)) (hr : Room n X.A) (hm : X.mg x = some (.ref fa)) (hk : PySem.W.keepIn X.K (.ref fa) = true) (hb : Binds X.K fd ps []) (hx : ∀ σ, PassesAt CX X σ (E σ))
    (ha : EF X E a f) (hN : X.N[i]? = some y := by rfl) (hv : Vis X.env.scope y := by first | exact Or.inl rfl | exact Or.inr (Or.inl rfl) | exact Or.inr (Or.inr rfl)) (hd : (y == ("__debug__" : Str)) = false := by decide)
    (hcd : (y == ("__classdict__" : Str)) = false := by decide)
    (hbase : attributeBase (.Name y p1) "pop" X.env (eval (.Name y p1) X.env) = eval (.Name y p1) X.env := by rfl) (hline : (p2.endLine == p3.line) = true := by rfl)
    (hs1 : starEach [.Call (.Attribute (.Name y p1) "pop" p2) [] [] p3] X.env = (false, eval (.Call (.Attribute (.Name y p1) "pop" p2) [] [] p3) X.env) :: starEach [] X.env := by rfl)
    (hg : Gl X x := by rfl) (hdb : (x == ("__debug__" : Str)) = false := by decide)
    (he : starEach (a :: [.Call (.Attribute (.Name y p1) "pop" p2) [] [] p3]) X.env = (false, eval a X.env) :: starEach [.Call (.Attribute (.Name y p1) "pop" p2) [] [] p3] X.env := by rfl)
    (hpl : (backTo pos (starEach [.Call (.Attribute (.Name y p1) "pop" p2) [] [] p3] X.env)).any (·.1) = false := by rfl) :
    EIS X tg (.Call (.Name x p) [a, .Call (.Attribute (.Name y p1) "pop" p2) [] [] p3] [] pos) (mPop2 F f i) :=
  pi_imp (pi_any (pe_callS G hr hg hm hk hb hx (pa_cons ha (pa_cons (pe_bm0 PySem.F.plainAttrs_list PySem.F.slot_list_pop PySem.F.type_list_pop mt_pop (pe_var hN hv hd hcd) hbase hline) pa_nil hs1) he) hdb he hpl)) fun σ H R hq => pop_call hq
end
end PP

namespace PP
open PySem PySem.Spec PyProof.Rows L2
open Res (ok exc bad)
/-! ### * of numbers, a text times a number, a list times a number -/
def dMulX : D → D → Option D
  | .int i, .int j => dMul (.int i) (.int j)
  | .str x, .int k => if x.length ≤ 16 ∧ -1000 ≤ k ∧ k ≤ 1000 then some (.str (Txt.mul x k)) else none
  | .lst xs, .int k => if 0 ≤ k ∧ k ≤ 1000 ∧ xs.length ≤ 1000 then some (.lst (List.replicate k.toNat xs).flatten) else none
  | _, _ => none
def rTxM : R2 := fun x y H Q => ∃ t k, x = .str t ∧ y = .int k ∧ t.length ≤ 16 ∧ -1000 ≤ k ∧ k ≤ 1000 ∧ Q (.str (Txt.mul t k)) H
def rRepS : R2 := fun x y H Q => ∃ l k xs, x = .ref l ∧ y = .int k ∧ Rd H l (.lst xs) ∧ -(2 ^ 63) ≤ k ∧ k < 2 ^ 63 ∧ xs.length * k.toNat ≤ sizeLine ∧
  ∀ p, H p = none → Q (.ref p) (upd H p (.lst (List.replicate k.toNat xs).flatten))
section
variable {X : Cx}
theorem op_txm : OpR X (binaryOp .Mult) rTxM := by
  intro pins s σ H x y v u Q I rx ry h
  obtain ⟨t, k, rfl, rfl, h1, h2, h3, q⟩ := h
  obtain ⟨a, rfl⟩ := rx
  obtain ⟨b, rfl⟩ := ry
  exact SB.mul (mulOk_of 16 1048576 h1 (by omega) (by omega) (by decide) (by decide)) fun t' tk => ⟨.str (Txt.mul t k), H, I.tok _, ⟨_, rfl⟩, q⟩
theorem op_repS : OpR X (binaryOp .Mult) rRepS := by
  intro pins s σ H x y v u Q I rx ry h
  obtain ⟨l, k, xs, rfl, rfl, hH, h1, h2, hz, q⟩ := h
  cases rx
  obtain ⟨t, rfl⟩ := ry
  obtain ⟨hl, its, n, r, e⟩ := hH.ok I.hok
  have len := r.length
  have hlen : its.toArray.size * k.toNat ≤ sizeLine := by rw [List.size_toArray, ← len]; exact hz
  have hcap : ¬ its.toArray.size * k.toNat > (2 ^ 63 - 1) / 8 := by
    have : (sizeLine : Nat) ≤ (2 ^ 63 - 1) / 8 := by decide
    omega
  have hfit : ¬ (!Builtin.List.listFitsIndex k) = true := by
    rw [fitsIndex_both h1 h2]
    exact Bool.false_ne_true
  have hlong : ¬ Builtin.List.listTooLong (its.toArray.size * k.toNat) = true := by
    rw [notLongL hlen]
    exact Bool.false_ne_true
  have hnew : List.foldl (fun x1 x2 => x1 ++ x2) #[] (List.replicate (if its.toArray.isEmpty = true then 0 else k.toNat) its.toArray) = (List.replicate k.toNat its).flatten.toArray := by
    have f0 : ∀ m : Nat, List.foldl (fun x1 x2 => x1 ++ x2) #[] (List.replicate m its.toArray) = (List.replicate m its).flatten.toArray := fun m => by
      simpa using foldl_rep its m []
    rw [f0]
    cases its with
    | nil => simp
    | cons a r' => rw [if_neg (by simp)]
  refine wpAny_binaryOp_repeat_ref (T := "list") (U := "int") (by decide) ⟨_, e, rfl⟩ (fun s' => typeIs_int s' k t) noFill_list_mul F.fills_int_mul F.slot_int_rmul repeat_list F.slot_int_index.lookup
    (call_meets F.slot_int_rmul (typeIs_int s k t) F.entry_int_rmul (F.args_int_rmul_2 _ _) (int___rmul___int_list k t l its.toArray n)
      ⟨e, rfl, ⟨_, e, rfl⟩, call_meets F.slot_list_mul ⟨_, e, rfl⟩ F.entry_list_mul (F.args_list_mul_2 _ _) (AutoListH.list___mul___list_int_3 l its.toArray n k t hfit hcap hlong) ⟨e, ?_⟩⟩)
  rw [hnew]
  exact ⟨.ref _, _, I.lnew (t' := s.toks) (r.rep k.toNat) (by rw [PyProof.Rows.lm_len_rep_flat, Nat.mul_comm]; exact hz), rfl, q _ I.fresh⟩
abbrev rMulX : R2 := fun x y H Q => rI CMul (fun i j => .int (i * j)) x y H Q ∨ rTxM x y H Q ∨ rRepS x y H Q
theorem op_mulX' : OpR X (binaryOp .Mult) rMulX := op_mul.or (op_txm.or op_repS)
theorem o_mulX {K : PySem.W.Frag} : Op2 K rMulX dMulX := by
  intro H O x y dx dy Q dm rx ry q
  unfold dMulX at q
  split at q
  · exact .inl (o_mul H O x y _ _ Q dm rx ry q)
  · rename_i a k
    by_cases c : a.length ≤ 16 ∧ -1000 ≤ k ∧ k ≤ 1000
    · rw [if_pos c] at q; exact .inr (.inl ⟨_, _, rx.str, ry.int, c.1, c.2.1, c.2.2, q _ H (Same.refl H) (.str _)⟩)
    · rw [if_neg c] at q; exact q.elim
  · rename_i xs k
    by_cases c : 0 ≤ k ∧ k ≤ 1000 ∧ xs.length ≤ 1000
    · rw [if_pos c] at q
      obtain ⟨a, vs, rfl, h1, z1, r1⟩ := rx.lstR
      have hz : vs.length * k.toNat ≤ sizeLine := by
        rw [r1.length]
        have a1 : xs.length * k.toNat ≤ 1000 * 1000 := Nat.mul_le_mul c.2.2 (by omega)
        exact Nat.le_trans a1 (Nat.le_trans (by decide) big_line)
      exact .inr (.inr ⟨a, k, vs, rfl, ry.int, h1, by omega, by omega, hz, fun p n => q _ _ (same_new n) (.lst (.inl upd_same) (fun h => (dm p h).1 n) (by rw [len_rep]; exact hz) ((reps_rep r1 k.toNat).same (same_new n)))⟩)
    · rw [if_neg c] at q; exact q.elim
  · exact q.elim
end
end PP

namespace PP
open PySem PySem.Spec PyProof.Rows L2
open Res (ok exc bad)
/-! ### C(..) where __init__ may raise: what is let out may speak of the slots -/
section
variable {X : Cx} {E : EX} {CX : CXT} {n : Nat} {fa : Addr} {fd : FuncData} {ps : List Str} {x : Str} {p pos : Pos} {e : Expr} {es : List Expr} {fs : List (Sls → Res D)} {F : List D → Res D} {c : Str} {C : Addr} {sp : Sp} {t : TA}
def tMakeE (C : Addr) (sp : Sp) (E : EX) (t : TA) : TE := fun σ H Q => t σ H fun vs H1 => ∀ x dx, H1 x = none → H1 dx = none → dx ≠ x →
  sp (.ref x :: vs) (upd (upd H1 dx (.own x)) x (.ins C dx [])) (fun v H2 => v = .non ∧ Q (.ref x) H2) (E σ)
theorem init_run (M : Mk X.K C fa) (G : FnOk X.prog X.w X.K X.mg X.base CX n fa fd ps sp) (hr : Room (n + 1) X.A) (hb : Binds X.K fd ps []) {pins : List (Addr × Obj)} {σ : L2.St} {H : Hp} {s : Shared} {Q : VK} {us : List Value} {vs : List V}
    (hx : PassesAt CX X σ (E σ)) (I : Inv X pins σ H s) (r : Vals vs us)
    (h : ∀ x dx, H x = none → H dx = none → dx ≠ x → sp (.ref x :: vs) (upd (upd H dx (.own x)) x (.ins C dx [])) (fun v H2 => v = .non ∧ Q (.ref x) H2) (E σ)) :
    wpAny (model X.prog X.w) X.A (call (.ref C) us) (EP X pins σ Q) X.xe s := by
  have J := Inv.made (C := C) I
  have q := h (s.heap.objs.size + 1) s.heap.objs.size (I.hok.fresh (by omega)) (I.hok.fresh (by omega)) (fun z => absurd (show s.heap.objs.size = s.heap.objs.size + 1 from z) (by omega))
  have V1 : Vals (V.ref (s.heap.objs.size + 1) :: vs) (Value.ref (s.heap.objs.size + 1) :: us) := .cons rfl r
  have len : ((Value.ref (s.heap.objs.size + 1) :: us) ++ []).length = ps.length := by
    rw [List.append_nil, ← V1.length]; exact G.len _ _ _ _ q
  have B := hb _ (Value.ref (s.heap.objs.size + 1) :: us) J.kIn len
  rw [List.append_nil] at B
  have go := G.run _ X.stack _ _ ⟨Value.ref (s.heap.objs.size + 1) :: us, []⟩ _ _ _ (E σ) (hr.make C us []) (J.env0.make C us []) B V1 q
  refine wpAny_call (make_map I.kIn M.makes M.init (beq_iff_eq.mp M.fn) (codeAny_mono go ?_))
  intro res s' hq
  match res, hq with
  | .error e, hq => exact hx pins _ _ e s' J hq
  | .ok (.ret u), hq =>
    obtain ⟨v, H', I3, rv, ev, q3⟩ := J.after hq
    subst ev
    exact ⟨rv, V.ref (s.heap.objs.size + 1), H', I3, rfl, q3⟩
theorem pe_makeE (M : Mk X.K C fa) (G : FnOk X.prog X.w X.K X.mg X.base CX n fa fd ps sp) (hr : Room (n + 1) X.A) (hg : Gl X x) (hm : X.mg x = some (.ref C)) (hb : Binds X.K fd ps []) (hx : ∀ σ, PassesAt CX X σ (E σ))
    (ha : PA X (e :: es) t) (hdb : (x == ("__debug__" : Str)) = false := by decide) (he : starEach (e :: es) X.env = (false, eval e X.env) :: starEach es X.env := by rfl) (hpl : (backTo pos (starEach es X.env)).any (·.1) = false := by rfl) :
    PE X (.Call (.Name x p) (e :: es) [] pos) (tMakeE C sp E t) :=
  ⟨fun pins s σ H Q I h => wpAny_Call_Name_kw (ld_glob I hg hm (PySem.W.callWith_K (h₀ := X.base) I.ok.mod.kin M.kp
    (thn (ha.run pos pins s σ H _ I h) fun us s1 ⟨vs, H1, I1, r, q⟩ => ⟨I1.kIn, init_run M G hr hb (hx σ) I1 r q⟩) he hpl) hdb)⟩
def mMakeE (F : List D → Res D) (fs : List (Sls → Res D)) : Sls → Res D := fun ρ => mArgs fs ρ >>= F
theorem ef_makeE {fi : Addr → List D → Res D} (M : Mk X.K (He.ga X.K x) fa) (G : FnOk X.prog X.w X.K X.mg X.base CX n fa fd ps (spI X.K x fi)) (hF : ∀ a ds d, F ds = ok d → fi a ds = ok d) (hE : ∀ a ds c, F ds = exc c → fi a ds = exc c) (hr : Room (n + 1) X.A) (hm : X.mg x = some (.ref (He.ga X.K x))) (hb : Binds X.K fd ps []) (hx : ∀ σ, PassesAt CX X σ (E σ))
    (ha : EA X E (e :: es) (mArgs fs)) (hg : Gl X x := by rfl) (hdb : (x == ("__debug__" : Str)) = false := by decide) (he : starEach (e :: es) X.env = (false, eval e X.env) :: starEach es X.env := by rfl) (hpl : (backTo pos (starEach es X.env)).any (·.1) = false := by rfl) :
    EF X E (.Call (.Name x p) (e :: es) [] pos) (mMakeE F fs) :=
  pe_imp (pe_makeE M G hr hg hm hb hx ha hdb he hpl) fun σ H Q ⟨ρ, O, FF, s, p⟩ => ⟨ρ, O, FF, s, p.bind.imp fun ds p1 vs H1 e1 r1 y dx ny ndx nyx => by
    have s1 := s.same e1
    have nO : ¬ O y := fun h => (s1.dom y h).1 ny
    have sm : Same H1 (upd (upd H1 dx (.own y)) y (.ins (He.ga X.K x) dx [])) := (same_new ndx).trans (same_new (by rw [upd_ne (Ne.symm nyx)]; exact ny))
    have old : ∀ H' : Hp, (∀ b o, b ≠ y → upd (upd H1 dx (.own y)) y (.ins (He.ga X.K x) dx []) b = some o → H' b = some o) → Same H H' := fun H' k b o h => by
      have hby : b ≠ y := fun z => by subst z; rw [e1 b o h] at ny; cases ny
      exact k b o hby (sm b o (e1 b o h))
    have pre : Reps X.K (upd (upd H1 dx (.own y)) y (.ins (He.ga X.K x) dx [])) (Ad O y) vs ds := (r1.more ny).same sm
    have dm : Dom (upd (upd H1 dx (.own y)) y (.ins (He.ga X.K x) dx [])) (Ad O y) := fun b hb => by
      rcases hb with hb | hb
      · exact (s1.dom.same sm) b hb
      · subst hb; exact ⟨by rw [upd_same]; exact fun z => (nomatch z), fun ys r => by rcases r with r | ⟨o, r⟩ <;> (rw [upd_same] at r; cases r)⟩
    refine ⟨y, dx, vs, ds, Ad O y, rfl, upd_same, .inr rfl, pre, dm, ?_⟩
    cases q : F ds with
    | ok d =>
      rw [q] at p1
      rw [hF y ds d q]
      exact fun H' k rk => ⟨rfl, p1 _ H' (old H' k) (rk.freeze nO fun _ z => .inl z)⟩
    | exc c =>
      rw [q] at p1
      rw [hE y ds c q]
      exact fun H' k => p1 H' (old H' k)
    | bad => rw [q] at p1; exact p1.elim⟩
end
end PP

namespace PP
open PySem PySem.Spec PyProof.Rows L2
open Res (ok exc bad)
def sParFFN (i j l : Nat) (f g h : Sls → Res D) : Sls → Fl := fun ρ => thenF (f ρ) ρ fun x => thenF (g ρ) ρ fun y => thenF (h ρ) ρ fun z => .nx (((ρ.set i (.fz x)).set j (.fz y)).set l (.ow z))
section
variable {X : Cx} {E : EX} {f g h : Sls → Res D}
theorem ss_parFFN (i j l : Nat) {x y z : Str} {a b c : Expr} {px py pz pt pos : Pos} {kt k2 pt2} (ha : EF X E a f) (hb : EF X E b g) (hd : EN X E c h) (hc : X.calm = true) (hN : X.N.Nodup) (hi : X.N[i]? = some x := by rfl) (hj : X.N[j]? = some y := by rfl) (hl : X.N[l]? = some z := by rfl)
    (hij : i ≠ j := by decide) (hil : i ≠ l := by decide) (hjl : j ≠ l := by decide)
    (hx : X.env.scope.names.lookup x = some .local := by rfl) (hy : X.env.scope.names.lookup y = some .local := by rfl) (hz : X.env.scope.names.lookup z = some .local := by rfl)
    (hw : swappedStores [.Tuple [.Name x px, .Name y py, .Name z pz] kt pt] (.Tuple [a, b, c] k2 pt2) X.env = pure (some [x, y, z]) := by rfl)
    (hs : swapsWithSole [.Tuple [.Name x px, .Name y py, .Name z pz] kt pt] (.Tuple [a, b, c] k2 pt2) pos.line X.env = pure false := by rfl) (h1 : starEach [a, b, c] X.env = (false, eval a X.env) :: starEach [b, c] X.env := by rfl)
    (h2 : starEach [b, c] X.env = (false, eval b X.env) :: starEach [c] X.env := by rfl) (h3 : starEach [c] X.env = (false, eval c X.env) :: starEach [] X.env := by rfl) :
    SS X E (.Assign [.Tuple [.Name x px, .Name y py, .Name z pz] kt pt] (.Tuple [a, b, c] k2 pt2) pos) (sParFFN i j l f g h) :=
  ps_imp (ps_par3 hc hN hi hj hl hij hil hjl hx hy hz (pa_cons ha (pa_cons hb (pa_cons hd pa_nil h3) h2) h1) hw hs) fun D σ H ⟨ρ, O, F, s, p⟩ => ⟨ρ, O, F, s, (FP.po s p).imp fun dx p1 v H1 e1 r1 =>
    ⟨ρ, O, F, s.same e1, ((FP.po s p1).imp fun dy p2 v2 H2 e2 r2 =>
    ⟨ρ, O, F, s.same (e1.trans e2), ((FP.po s p2).imp fun dz p3 u c H3 e3 n r3 => by
      have e13 := (e1.trans e2).trans e3
      have n0 := same_none (e1.trans e2) n
      have hk := r3.2.2
      have s3 := s.add e13 n0 hk.some hk.noTup
      have nF : c ∉ F := fun h => (s.st.owned c h).2 n0
      obtain ⟨F1, g1, g2⟩ := RSt.setF (((r1.same e2).more n).same e3) i s3.st
      obtain ⟨F2, g3, g4⟩ := RSt.setF ((r2.more n).same e3) j g1
      obtain ⟨F3, g5, g6⟩ := RSt.setO r3 l (fun z => nF (g2 _ (g4 _ z))) g3
      exact ⟨v, v2, u, rfl, p3 _ H3 (Ad O c) F3 ⟨g5, s3.dom⟩ ⟨fun b o q _ => e13 b o q, fun b hb => (g6 b hb).elim (fun z => .inr (by rw [z]; exact n0)) (fun z => .inl (g2 b (g4 b z))), fun b hb => .inl (.inl hb), fun b hb => hb.imp id fun z => by rw [z]; exact n0⟩⟩).later (e1.trans e2)⟩).later e1⟩⟩
end
end PP

namespace PP
open PySem PySem.Spec PyProof.Rows L2
open Res (ok exc bad)
/-! ### sorted(d): the keys of a dict -/
mutual
theorem reads_live {h : Heap} : ∀ {v : Value} {d : PyData} {as : List Addr}, Reads h v d as → ∀ a ∈ as, h.get? a ≠ none
  | _, _, _, .none, a, m => by simp at m
  | _, _, _, .bool b, a, m => by simp at m
  | _, _, _, .int i t, a, m => by simp at m
  | _, _, _, .str x t, a, m => by simp at m
  | _, _, _, .list h1 _ _ h4, a, m => by
    rcases List.mem_cons.mp m with e | e
    · rw [e, h1]; simp
    · exact readsAll_live h4 a e
  | _, _, _, .tuple _ _ _ h4, a, m => readsAll_live h4 a m
  | _, _, _, .dict h1 _ _ h4 h5, a, m => by
    rcases List.mem_append.mp m with e | e
    · rcases List.mem_cons.mp e with e | e
      · rw [e, h1]; simp
      · exact readsAll_live h4 a e
    · exact readsAll_live h5 a e
theorem readsAll_live {h : Heap} : ∀ {vs : List Value} {ds : List PyData} {as : List Addr}, ReadsAll h vs ds as → ∀ a ∈ as, h.get? a ≠ none
  | _, _, _, .nil, a, m => by simp at m
  | _, _, _, .cons h1 h2, a, m => by
    rcases List.mem_append.mp m with e | e
    · exact reads_live h1 a e
    · exact readsAll_live h2 a e
end
def rSortedDct (K : PySem.W.Frag) : List V → Hp → VK → Prop := fun vs H Q => ∃ (a : Addr) (ob : Obj) (xs : DX) (bs : List B3), vs = [V.ref a] ∧ H a = some (.ext (DictAt a ob xs)) ∧ bs.map (·.1) = xs.map (fun x : NestedKey × Addr × Value => V.ref x.2.1) ∧ xs.length ≤ sizeLine ∧ (∀ b ∈ bs, Dp K H b.1 b.2.2) ∧ PySem.W.AllAlike (bs.map (·.2.2)) ∧ PySem.W.Sortable (bs.map (·.2.2)) ∧ (∀ b ∈ bs, b.2.2.depth ≤ 60) ∧
  ∀ p, H p = none → Q (.ref p) (upd H p (.lst ((bs.mergeSort (PySem.W.dataLe false (·.2.2))).map (·.1))))
theorem vals_refs : ∀ {xs : DX} {its : List Value}, its.length = xs.length → (∀ (i : Nat) (v : Value), its[i]? = some v → ∃ x : NestedKey × Addr × Value, xs[i]? = some x ∧ v = Value.ref x.2.1) → Vals (xs.map (fun x : NestedKey × Addr × Value => V.ref x.2.1)) its
  | [], [], _, _ => .nil
  | x :: xs, v :: its, hl, h => by
    obtain ⟨y, y1, y2⟩ := h 0 v rfl
    cases y1
    exact .cons y2 (vals_refs (by simpa using hl) fun i v e => by simpa using h (i + 1) v (by simpa using e))
section
variable {X : Cx}
theorem cr_sortedDct (hc : X.calm = true) (hu : X.A.units + 65 < cLine) : CallR X (.builtin "sorted") (rSortedDct X.K) := by
  intro pins s σ H vs us Q I r h
  obtain ⟨a, ob, xs, bs, rfl, e, eb, hz, hd, h1, h2, h3, q⟩ := h
  rw [Vals.ref1 r]
  obtain ⟨⟨g1, g2, g3, es, ep, g4, g5⟩, _⟩ := (show ObjOk X.prog X.w H s.heap a (.ext (DictAt a ob xs)) from I.hok a _ e)
  obtain ⟨lo, hr, hl, hk⟩ := raw_of I e g4
  refine Calls.call_function_entry kind_sorted plain_sorted entry_sorted (args_sorted1 _) ?_
  unfold Builtin.«sorted»
  refine wpAny_bind (m := checkCount "sorted" 1 1 _) (wpAny_pure ?_)
  refine wpAny_bind (PySem.W.kdu_collect (A := X.A.in1) (PySem.KdlSrc.rawDict (prog := X.prog) (w := X.w) (ep := ep) (es := es) lo) (I.ok.hd hc) hr (by rw [hl]; exact hz) fun h' tk acc old it => ?_)
  have lenA : acc.toList.length = xs.length := by rw [Array.length_toList, it.1, hl]
  have rv : Vals (bs.map (·.1)) acc.toList := by
    rw [eb]
    refine vals_refs lenA fun i v ev => ?_
    obtain ⟨hi, e2⟩ := it.2 i v (by rw [← Array.getElem?_toList]; exact ev)
    obtain ⟨x, x1, x2⟩ := hk i hi
    exact ⟨x, x1, by rw [e2, x2]⟩
  obtain ⟨e1, e2⟩ := each_reads I rv hd
  have lenB : bs.length = xs.length := by rw [← List.length_map (f := (·.1)) (as := bs), eb, List.length_map]
  refine wpAny_bind (wpAny_newList ?_ (by rw [lenA]; exact hz))
  have fresh : s.heap.get? h'.objs.size = none := by
    cases z : s.heap.get? h'.objs.size with
    | none => rfl
    | some o => exact absurd (Heap.lt_size (old _ _ z)) (Nat.lt_irrefl _)
  have er : PySem.W.EachIs (fun v (b : B3) => ∃ as, Reads (h'.push { cls := .type "list", data := .seq acc.toList.toArray }) v b.2.2 as ∧ h'.objs.size ∉ as) acc.toList bs :=
    e2.mono fun v b ⟨as, r⟩ => ⟨as, Reads.keeps (fun b o q => Heap.get?_push_of_some _ (old b o q)) r, fun m => reads_live r _ m fresh⟩
  have ho : (h'.push { cls := .type "list", data := .seq acc.toList.toArray }).get? h'.objs.size = some (seqObj "list" acc.toList.toArray 0) := Heap.get?_push_size _ rfl
  refine wpAny_bind (wpAny_holding ?_)
  refine PySem.W.list_sort_data (s := { s with heap := h'.push { cls := .type "list", data := .seq acc.toList.toArray }, toks := tk }) (enc := fun b : B3 => b.2.2) ho e1 er h1 h2 (by rw [lenB]; exact hz) (fun b hb => ?_) fun out lo2 eo => ?_
  · have := h3 b hb
    show X.A.units + 1 + 1 + _ < cLine
    omega
  · refine wpAny_pure ⟨_, rfl, ?_⟩
    obtain ⟨ep2, at2⟩ := sortedHeap_at (out := out.toArray) ho
    have rv2 := each_vals eo
    have hlen : ((bs.mergeSort (PySem.W.dataLe false fun b : B3 => b.2.2)).map (·.1)).length ≤ sizeLine := by rw [List.length_map, List.length_mergeSort, lenB]; exact hz
    refine ⟨.ref _, upd H h'.objs.size (.lst ((bs.mergeSort (PySem.W.dataLe false fun b : B3 => b.2.2)).map (·.1))), Inv.laidN (s := s) (t' := tk) I (fun b u z => ?_) fresh (I.hok.gone fresh) ⟨hlen, out, ep2, rv2, at2⟩, rfl, q _ (I.hok.gone fresh)⟩
    have lt := Heap.lt_size (old b u z)
    have pz : (h'.push { cls := .type "list", data := .seq acc.toList.toArray }).get? b = some u := Heap.get?_push_of_some _ (old b u z)
    rw [sortedHeap_old (Nat.ne_of_lt lt) (Heap.lt_size pz)]
    exact pz
end
end PP
namespace PP
open PySem PySem.Spec PyProof.Rows L2
theorem RepKs.keys {K : PySem.W.Frag} {H : Hp} {O : Addr → Prop} : ∀ {xs : DX} {kvs : List (D × D)}, RepKs K H O xs kvs → Reps K H O (xs.map (fun x : NestedKey × Addr × Value => V.ref x.2.1)) (kvs.map (·.1))
  | _, _, .nil => .nil
  | _, _, .cons r _ _ _ t => .cons r (RepKs.keys t)
def dSortedX : List D → Option D
  | [.dct kvs] => (toPDs (kvs.map (·.1))).bind fun ps => if sortOk ps then some (.lst (sortD (kvs.map (·.1)) ps)) else none
  | ds => dSorted ds
def rSortedX (K : PySem.W.Frag) : List V → Hp → VK → Prop := fun vs H Q => rSortedDct K vs H Q ∨ rSortedD K vs H Q
theorem cr_sortedX {X : Cx} (hc : X.calm = true) (hu : X.A.units + 65 < cLine) : CallR X (.builtin "sorted") (rSortedX X.K) := by
  intro pins s σ H vs us Q I r h
  rcases h with h | h
  · exact cr_sortedDct hc hu pins s σ H vs us Q I r h
  · exact cr_sortedD hu pins s σ H vs us Q I r h
theorem c_sortedX {K : PySem.W.Frag} : Cl1N K (rSortedX K) dSortedX := by
  intro H O vs ds Q dm r q
  unfold dSortedX at q
  split at q
  · rename_i kvs
    obtain ⟨v, rfl, rv⟩ := r.one
    obtain ⟨a, ob, xs, rfl, h1, h2, h3, h4⟩ := rv.dct
    refine .inl ?_
    cases e : toPDs (kvs.map (·.1)) with
    | none => rw [e] at q; exact q.elim
    | some ps =>
      rw [e, Option.bind_some] at q
      by_cases hk : sortOk ps = true
      · rw [if_pos hk] at q
        obtain ⟨k1, k2, k3⟩ := sortOk_ok hk
        obtain ⟨bs, b1, b2, b3, b4⟩ := zip3 h4.keys e
        have hz : xs.length ≤ sizeLine := h2
        refine ⟨a, ob, xs, bs, rfl, h1, b1, hz, fun b hb => (b4 b hb).1, by rw [b3]; exact k1, by rw [b3]; exact k2, fun b hb => k3 _ (by rw [← b3]; exact List.mem_map.mpr ⟨b, hb, rfl⟩), fun p np => q _ p _ (same_new np) np ?_⟩
        have el : sortD (kvs.map (·.1)) ps = (bs.mergeSort (PySem.W.dataLe false fun b : B3 => b.2.2)).map (·.2.1) := by
          unfold sortD
          have z := List.map_mergeSort (r := PySem.W.dataLe false fun b : B3 => b.2.2) (s := PySem.W.dataLe false fun b : D × PyData => b.2) (f := fun b : B3 => b.2) (l := bs) (fun _ _ _ _ => rfl)
          rw [← b2, ← z, List.map_map]
          rfl
        rw [el]
        refine RepN.newL np ?_ (reps_of fun b hb => (b4 b (List.mem_mergeSort.mp hb)).2)
        rw [List.length_map, List.length_mergeSort]
        have : bs.length = xs.length := by rw [← List.length_map (f := (·.1)) (as := bs), b1, List.length_map]
        omega
      · rw [if_neg hk] at q
        exact q.elim
  · exact .inr (c_sortedD H O vs ds Q dm r q)
end PP

namespace PP
open PySem PySem.Spec PyProof.Rows L2
open Res (ok exc bad)
/-! ### a line that is never reached, x = y.pop(), enumerate -/
def sNev : Sls → Fl := fun _ => .bad
theorem ss_nev {X : Cx} {E : EX} {st : Stmt} : SS X E st sNev := ⟨fun _ _ _ _ _ _ ⟨_, _, _, _, p⟩ => p.elim⟩
def sPop (i j : Nat) : Sls → Fl := fun ρ => match popSl i ρ with
  | some (ρ1, d) => .nx (ρ1.set j (.fz d))
  | none => .bad
theorem ss_pop (i j : Nat) {X : Cx} {E : EX} {x y : Str} {p1 p2 p3 pos' pos : Pos} (hN : X.N.Nodup) (hj : X.N[j]? = some x := by rfl) (hx : Loc X.env.scope x := by first | exact Or.inl rfl | exact Or.inr rfl)
    (hs : swapsWith (.Call (.Attribute (.Name y p1) "pop" p2) [] [] p3) (some (.Name x pos')) pos.line X.env = pure false := by rfl) (hf : X.fn x = true ∨ X.env.scope.names.lookup x = some .local := by first | exact .inl rfl | exact .inr rfl | assumption)
    (hi : X.N[i]? = some y := by rfl) (hv : Vis X.env.scope y := by first | exact Or.inl rfl | exact Or.inr (Or.inl rfl) | exact Or.inr (Or.inr rfl)) (hd : (y == ("__debug__" : Str)) = false := by decide) (hcd : (y == ("__classdict__" : Str)) = false := by decide)
    (hbase : attributeBase (.Name y p1) "pop" X.env (eval (.Name y p1) X.env) = eval (.Name y p1) X.env := by rfl) (hline : (p2.endLine == p3.line) = true := by rfl) :
    SS X E (.Assign [.Name x pos'] (.Call (.Attribute (.Name y p1) "pop" p2) [] [] p3) pos) (sPop i j) :=
  ps_imp (ps_set hN hj hx (pe_bm0 PySem.F.plainAttrs_list PySem.F.slot_list_pop PySem.F.type_list_pop mt_pop (pe_var hi hv hd hcd) hbase hline) hs hf) fun D σ H ⟨ρ, O, F, s, p⟩ => by
    unfold sPop at p
    cases e : popSl i ρ with
    | none => rw [e] at p; exact p.elim
    | some z =>
      obtain ⟨ρ1, d⟩ := z
      rw [e] at p
      refine pop_reads s e fun v H' s1 t1 r1 _ => ?_
      obtain ⟨F', h1, h2⟩ := RSt.setF r1 j s1.st
      exact p _ H' O F' ⟨h1, s1.dom⟩ (t1.trans s (.sub h2 (Same.refl _)))
/-! ### enumerate(list) -/
def numD (ds : List D) : List D := (List.range ds.length).map fun i => D.tup [.int (i : Nat), ds.getD i .non]
def mEnum (f : Sls → Res D) : Sls → Res (List D) := fun ρ => f ρ >>= fun d => match d with
  | .lst ds => ok (numD ds)
  | .kl ds => ok (numD ds)
  | _ => bad
theorem wk_enum {K : PySem.W.Frag} {H : Hp} {O : Addr → Prop} {a : Addr} {vs : List V} {ds : List D} (d : Dom H O) (h : SqF K H O a vs) (r : Reps K H O vs ds) : Wk K (Ite K a) (numD ds) H O := by
  intro H2 O2 l i
  have h2 := (l.sqf h).sql
  have r2 := r.later d l
  refine ⟨fun x e => ?_, fun hi => ⟨vs, h2, by rw [r.length]; simpa [numD] using hi⟩⟩
  unfold numD at e
  rw [List.getElem?_map] at e
  obtain ⟨i', hi', e⟩ := Option.map_eq_some_iff.mp e
  have hlt := (List.getElem?_eq_some_iff.mp hi').1
  rw [List.length_range] at hlt
  rw [List.getElem?_range hlt] at hi'
  cases hi'
  subst e
  obtain ⟨v, hv, rv⟩ := r2.get (i := i) (List.getElem?_eq_getElem hlt)
  refine ⟨⟨vs, v, h2, hv⟩, fun u H3 ⟨T, z, e1, n, e3, k⟩ => ?_⟩
  have hz : z = v := Option.some.inj ((k vs h2).symm.trans hv)
  subst e1 e3 hz
  refine ⟨same_new n, ?_⟩
  rw [List.getD_eq_getElem?_getD, List.getElem?_eq_getElem hlt]
  exact .tup (.inl (.inl upd_same)) (by show 2 ≤ sizeLine; decide) (.cons (.int _) (.cons (rv.same (same_new n)) .nil))
theorem ei_enum {X : Cx} {E : EX} {e : Expr} {f : Sls → Res D} {p pos tpos : Pos} {elts : List Expr} {kk : Nat} (hm : X.mg "enumerate" = none) (he : EF X E e f) (hg : Gl X "enumerate" := by rfl) (hs : starEach [e] X.env = [(false, eval e X.env)] := by rfl) :
    EI X E (.Tuple elts kk tpos) (.Call (.Name "enumerate" p) [e] [] pos) (mEnum f) :=
  pi_imp (pi_enum hg hm (pa_cons he pa_nil hs) hs) fun σ H R ⟨ρ, O, F, s, p⟩ => by
    refine ⟨ρ, O, F, s, p.bind.imp fun d p1 v H1 e1 r1 => ?_⟩
    have dm := (s.same e1).dom
    have len : ∀ ds : List D, (numD ds).length = ds.length := fun ds => by simp [numD]
    cases d with
    | lst ds =>
      cases r1 with
      | lst h n z r => exact ⟨_, _, rfl, .inl h, p1 _ H1 e1 (by rw [len, ← r.length]; exact z) (wk_enum dm (.inl ⟨h, n⟩) r)⟩
    | kl ds =>
      cases r1 with
      | kl h z r => exact ⟨_, _, rfl, h.sql, p1 _ H1 e1 (by rw [len, ← r.length]; exact z) (wk_enum dm h r)⟩
    | _ => exact p1.elim
end PP

namespace PP
open PySem PySem.Spec PyProof.Rows L2
open Res (ok exc bad)
/-! ### t[::-1], t a tuple -/
theorem rev_adjust (n : Nat) : Builtin.Slice.sliceAdjust none none (-1) (n : Int) = ((n : Int) - 1, -1) := by
  unfold Builtin.Slice.sliceAdjust
  simp
theorem rev_places (n : Nat) : Builtin.Slice.slicePlaces ((n : Int) - 1) (-1) (-1) = n := by
  unfold Builtin.Slice.slicePlaces
  rw [if_neg (by decide)]
  have e : -(-1 : Int) = 1 := by decide
  rw [e, Int.ediv_one]
  split <;> omega
theorem rev_picks (xs : Array Value) : ((List.range xs.size).filterMap fun (m : Nat) => xs[(((xs.size : Int) - 1) + (m : Int) * (-1)).toNat]?) = xs.toList.reverse := by
  have e : (List.range xs.size).filterMap (fun (m : Nat) => xs[(((xs.size : Int) - 1) + (m : Int) * (-1)).toNat]?) = ((List.range xs.size).map fun m => xs.size - 1 - m).filterMap fun m => xs[m]? := by
    rw [List.filterMap_map]
    congr 1
    funext m
    show xs[(((xs.size : Int) - 1) + (m : Int) * (-1)).toNat]? = xs[xs.size - 1 - m]?
    rw [show (((xs.size : Int) - 1) + (m : Int) * (-1)).toNat = xs.size - 1 - m by omega]
  rw [e, PySem.W.krv_range, List.filterMap_reverse, PySem.W.krv_all]
section
variable {prog : Program} {w : World} {A : Around} {E : Value → Shared → Prop} {s : Shared}
theorem sliceApplied_rev {sl : Addr} {vl vu vs : Value} {n : Nat} {Q : Int × Int × Nat → Shared → Prop} (hs : s.heap.IsSliceOf sl vl vu vs) (pl : IsPart vl none) (pu : IsPart vu none) (ps : IsPart vs (some (-1)))
    (h : Q ((n : Int) - 1, -1, n) s) : wpAny (model prog w) A (Builtin.Slice.sliceApplied (.ref sl) (pure (n : Int))) Q E s := by
  obtain ⟨os, hos, hcs, hds⟩ := id hs
  unfold Builtin.Slice.sliceApplied Builtin.Slice.sliceFields
  refine wpAny_bind (wpAny_bind (wpAny_field hos hds (x := vl) rfl (wpAny_bind (wpAny_field hos hds (x := vu) rfl (wpAny_bind (wpAny_field hos hds (x := vs) rfl (wpAny_pure ?_)))))))
  refine wpAny_bind (HT.slicePart_ ps ?_)
  show wpAny _ _ (if ((-1 : Int) == 0) = true then _ else _) _ _ s
  rw [if_neg (by decide)]
  refine wpAny_bind (HT.slicePart_ pl (wpAny_bind (HT.slicePart_ pu (wpAny_bind (wpAny_pure ?_)))))
  show wpAny _ _ (match Builtin.Slice.sliceAdjust none none (-1) (n : Int) with | (lo, hi) => pure (lo, (-1 : Int), Builtin.Slice.slicePlaces lo hi (-1))) _ _ s
  rw [rev_adjust]
  show wpAny _ _ (pure ((n : Int) - 1, (-1 : Int), Builtin.Slice.slicePlaces ((n : Int) - 1) (-1) (-1))) _ _ s
  rw [rev_places]
  exact wpAny_pure h
theorem getItem_tuple_rev {t sl : Addr} {items : Array Value} {vl vu vs : Value} {Q : Value → Shared → Prop} (ht : IsTup s.heap t items) (hs : s.heap.IsSliceOf sl vl vu vs) (pl : IsPart vl none) (pu : IsPart vu none) (ps : IsPart vs (some (-1)))
    (h : Q (.ref s.heap.objs.size) { s with heap := s.heap.push { cls := .type "tuple", data := .seq items.toList.reverse.toArray } }) (hsz : items.size ≤ sizeLine) : wpAny (model prog w) A (getItem (.ref t) (.ref sl)) Q E s := by
  have hok : sizeOk (.seq items.toList.reverse.toArray) := by
    show items.toList.reverse.toArray.size ≤ sizeLine
    rw [List.size_toArray, List.length_reverse, Array.length_toList]
    exact hsz
  obtain ⟨os, hos, hcs, hds⟩ := id hs
  unfold getItem
  try with_reducible refine wpAny_holding ?_
  first | refine wpAny_bind (wpAny_pure ?_) | skip
  refine wpAny_bind (wpAny_sequenceKey ht.typeIs (by decide) ?_)
  refine wpAny_bind (wpAny_callSpecial?_slot (name := Str.ofString "__getitem__") ht.typeIs PyProof.Rows.slot_tuple_getitem (wpAny_call_entry PyProof.Rows.slot_tuple_getitem ht.typeIs PyProof.Rows.entry_tuple_getitem ?_ (PyProof.Rows.args_tuple_getitem _ _)))
  show wpAny _ _ (Builtin.Tuple.tupleItemsOf (.ref t) >>= _) _ _ s
  refine wpAny_bind (tupleItemsOf_ ht (wpAny_bind (wpAny_typeOf ⟨os, hos, hcs⟩ ?_)))
  rw [if_pos (by decide)]
  refine wpAny_bind (sliceApplied_rev hs pl pu ps ?_)
  show wpAny _ _ (if (((items.size : Int) - 1 == 0) && ((-1 : Int) == 1) && (items.size == items.size)) = true then _ else _) _ _ s
  rw [if_neg (by simp), rev_picks]
  first
    | exact wpAny_bind (m := Builtin.Tuple.tupleExact _) (wpAny_newObj_type (wpAny_pure ⟨_, rfl, wpAny_pure h⟩) hok)
    | exact wpAny_bind (m := Builtin.Tuple.tupleExact _) (wpAny_newObj_type (wpAny_bind (wpAny_pure (wpAny_pure ⟨_, rfl, wpAny_pure h⟩))) hok)
    | exact wpAny_bind (wpAny_bind (m := Builtin.Tuple.tupleExact _) (wpAny_newObj_type (wpAny_pure (wpAny_pure ⟨_, rfl, wpAny_pure h⟩)) hok))
    | exact wpAny_bind (wpAny_bind (m := Builtin.Tuple.tupleExact _) (wpAny_newObj_type (wpAny_pure ⟨_, rfl, wpAny_pure h⟩) hok))
end
def tRevT (K : PySem.W.Frag) (te : TE) : TE := fun σ H Q => te σ H fun x H1 => ∃ a xs, x = .ref a ∧ SqT K H1 a xs ∧ ∀ p, H1 p = none → Q (.ref p) (upd H1 p (.tup xs.reverse))
section
variable {X : Cx}
theorem pe_revT {e : Expr} {te : TE} {k : Nat} {p1 p2 p3 pos : Pos} (he : PE X e te) : PE X (.Subscript e (.Slice none none (some (.UnaryOp .USub (.Constant (.int 1) k p1) p2)) p3) pos) (tRevT X.K te) := by
  refine ⟨fun pins s σ H Q I h => ?_⟩
  refine Subscript_ (thn (he.run pins s σ H _ I h) fun v s1 ⟨x, H1, I1, r1, a, xs, ex, hx, q⟩ => ?_)
  subst ex
  obtain rfl : v = Value.ref a := r1
  have hst : PO X (some (.UnaryOp .USub (.Constant (.int 1) k p1) p2)) (tPart (tUn (rU fun i => .int (-i)) (tC (.int 1)))) := po_some (pe_un un_neg pe_int)
  refine wpAny_Slice (thn (po_none.run pins s1 σ H1 (fun o H2 => o = none ∧ H2 = H1) I1 ⟨rfl, rfl⟩) fun vl s2 ⟨l, H2, I2, pl, el, e2⟩ => ?_)
  subst el e2
  refine thn (po_none.run pins s2 σ H2 (fun o H3 => o = none ∧ H3 = H2) I2 ⟨rfl, rfl⟩) fun vu s3 ⟨u, H3, I3, pu, eu, e3⟩ => ?_
  subst eu e3
  refine thn (hst.run pins s3 σ H3 (fun o H4 => o = some (-1) ∧ H4 = H3) I3 ⟨1, rfl, -1, rfl, rfl, rfl⟩) fun vs s4 ⟨o, H4, I4, ps, eo, e4⟩ => ?_
  subst eo e4
  have I5 : Inv X pins σ H4 { s4 with heap := s4.heap.push { cls := .type "slice", data := .fields #[vl, vu, vs] } } := I4.kept (t' := s4.toks) fun b ob q => Heap.get?_push_of_some _ q
  obtain ⟨its, r, ht, hz⟩ := I5.tuple hx
  have hlen := r.length
  refine tail_any (ops := [.ref a, .ref s4.heap.objs.size]) ht.typeIs (PyProof.Rows.slot_tuple_getitem.lookup) ?_ (by with_unfolding_all rfl)
  refine getItem_tuple_rev ht (Heap.IsSliceOf.new _ vl vu vs) pl pu ps ⟨.ref _, _, I5.laid (t' := s4.toks) (o := .tup xs.reverse) (fun b ob q => Heap.get?_push_of_some _ q) (Nat.le_refl _) ⟨by rw [List.length_reverse]; exact hz, _, r.reverse, IsTup.new _ _⟩, rfl, q _ (I5.hok.fresh (Nat.le_refl _))⟩ (by rw [List.size_toArray]; omega)
end
section
variable {X : Cx} {E : EX} {e : Expr} {f : Sls → Res D}
def dRevT : D → Option D
  | .tup xs => some (.tup xs.reverse)
  | _ => none
theorem ef_revT {k : Nat} {p1 p2 p3 pos : Pos} (he : EB X E e f) : EF X E (.Subscript e (.Slice none none (some (.UnaryOp .USub (.Constant (.int 1) k p1) p2)) p3) pos) (mOp1 dRevT f) :=
  pe_imp (pe_revT he) fun σ H Q ⟨ρ, O, F, s, p⟩ => ⟨ρ, O, F, s, p.bind.imp fun d p1 v H1 e1 r1 => by
    cases d with
    | tup xs =>
      have p2 : VP X.K H1 O Q (some (D.tup xs.reverse)) := p1.vp e1
      obtain ⟨b, rfl⟩ := r1.tupR.refT
      cases r1.tupR with
      | tup h z r => exact ⟨_, _, rfl, h, fun p n => p2 _ _ (same_new n) (.tup (.inl (.inl upd_same)) (by rw [List.length_reverse]; exact z) ((reps_rev r).same (same_new n)))⟩
    | _ => exact p1.elim⟩
end
end PP

namespace PP
open PySem PySem.Spec PyProof.Rows L2
open Res (ok exc bad)
/-! ### {k: v for .. in ..}, the keys tuples -/
section
variable {X : Cx} {pins : List (Addr × Obj)} {σ : L2.St} {H : Hp} {s : Shared} {E : Value → Shared → Prop}
theorem dct_put2 {v y : V} {u r : Value} {D : Addr} {Nx : Hp → Prop} {Q : Unit → Shared → Prop} (hu : X.A.units + 65 < cLine) (I : Inv X pins σ H s) (ry : RelV y u) (rv : RelV v r) (q : rPut X.K (.ref D) y v H Nx) (h : ∀ H' s', Inv X pins σ H' s' → Nx H' → Q () s') :
    wpAny (model X.prog X.w) X.A (dictSet D u r) Q E s := by
  obtain ⟨a, b, ob, xs, kvs, d, k, dv, Z, ea, ey, e, rk, hk, nd, hz, rd, kt, rv2, q3⟩ := q
  cases ea
  subst ey
  obtain rfl : u = Value.ref b := ry
  obtain ⟨h1, h2⟩ := dict_of I e rk hk nd
  obtain ⟨k1, k2, _⟩ := keyT_ok kt
  refine wpAny_dictSet_heap (knd := nestedKind X.prog X.w) (hsz := hz) (show X.A.units + 8 < cLine by omega) ⟨nested_of I rd k1 rfl, k2⟩ h2 fun h' dd' hs => ?_
  obtain ⟨ob2, da2⟩ := dictAt_of h1 dd' (rk.put rd k1 rv rv2).hash
  obtain ⟨o2, es, ep, hq, _, _, _, _, hnd⟩ := id dd'
  exact h _ _ (d_write (ob := .ext (DictAt D ob2 (storedH xs k b r))) I (by rw [e]; exact True.intro) hs ⟨o2, hq⟩ ⟨da2, ⟨o2, hq⟩, dictAt_stab⟩) (q3 r ob2 rv hnd)
end
section
variable {X : Cx}
abbrev oD (D : Addr) : HO := .ext (DictAt D ob0 [])
def tDcx (K : PySem.W.Frag) (wi : TI) (g : L2.TG) (tt : TT) (tk tv : TE) (vs : List Nat) : TE := fun σ H Q => wi σ H fun J H1 => ∀ D, H1 D = none → ∃ W : Nat → Nat → Hp → Prop, (∃ m, W 0 m (upd H1 D (oD D))) ∧ ∀ i m H, W i m H →
  (J.stop i H ∧ Q (.ref D) H) ∨ (J.go i H ∧ ∃ Nx : Hp → Prop, (∀ H', Nx H' → ∃ m', m' < m ∧ W (i + 1) m' H') ∧ ∀ x H', J.yld i H x H' → g x (L2.wipe σ vs) H' fun σ2 H2 => L2.wipe σ2 vs = L2.wipe σ vs ∧ tt σ2 H2 fun b H3 =>
    if b = true then tk σ2 H3 fun y H4 => tv σ2 H4 fun z H5 => rPut K (.ref D) y z H5 Nx else Nx H3)
abbrev BlkAll (X : Cx) (scope : Scope) (P : Cx → Prop) : Prop := ∀ (s : Shared) (H : Hp) (C : Addr) (cl : List (Str × Addr)) (fp : List Addr), P (X.blk s H scope (compEnvC scope cl C X.env) fp)
theorem dcx_core {pins : List (Addr × Obj)} {s : Shared} {σ : L2.St} {H : Hp} {Q : VK} {kx vx tg iter : Expr} {ifs : List Expr} {scope : Scope} {own : List (Str × Nat)} {pos pos' : Pos} {wi : TI} {g : L2.TG} {tt : TT} {tk tv : TE} {use : Option (Value → Sem Unit)} {Qf : Value → Shared → Prop}
    (hu : X.A.units + 65 < cLine) (hc : X.calm = true) (hN : X.N.Nodup) (I : Inv X pins σ H s) (hi : PI X tg iter wi) (ok : BlkOk X.N X.env.scope scope own) (hg : BlkAll X scope fun Y => PG Y tg g) (ht : BlkAll X scope fun Y => PTs Y ifs tt) (hk : BlkAll X scope fun Y => PE Y kx tk) (he : BlkAll X scope fun Y => PE Y vx tv)
    (hs : ∀ x, foldedSetIterable iter X.env x = pure x) (h : tDcx X.K wi g tt tk tv (own.map (·.2)) σ H Q)
    (fin0 : ∀ D C s' m H', Inv X pins σ H' s' → Q (.ref D) H' → s'.heap.Ns C m → FpOk X pins H' C → compPost (model X.prog X.w) X.A X.xe use Qf (.ref D) C (.ok .next) s') :
    wpAny (model X.prog X.w) X.A (comprehension (.DictComp kx vx [⟨tg, iter, ifs, 0⟩] scope pos) scope X.env pos' newDict false (eval iter X.env) use) Qf X.xe s := by
  have frees : ∀ y ∈ scope.names, y.2 = .free → ∃ c, X.env.cells.lookup y.1 = some c := fun y hy e => (ok.free y hy e).elim (fun k => I.ok.has _ (.inl k)) fun k => I.ok.has _ (.inr k)
  refine wpAny_comprehension_free (use := use) rfl hs (closure_ok frees) ok.kind (fun y hy e => by rw [ok.uniq y hy, e]) (thn (hi.run pins s σ H _ I h) fun xv s1 hx => thn hx fun itv s2 ⟨it, fp, tn, J, H2, e, I2, T, st2, f2, q⟩ => ?_)
  subst e
  refine wpAny_newObj_type (newEnv_comp ?_)
  generalize eD : s2.heap.objs.size = D
  have nD : H2 D = none := I2.hok.fresh (Nat.le_of_eq eD)
  obtain ⟨W, ⟨m0, w0⟩, turn⟩ := q D nD
  generalize es3 : ({ s2 with heap := s2.heap.push ob0 } : Shared) = s3
  have h3 : s3.heap = s2.heap.push ob0 := by rw [← es3]
  have I3 : Inv X pins σ (upd H2 D (oD D)) s3 := by
    rw [← es3, ← eD]
    exact I2.laid (t' := s2.toks) (fun b o e => Heap.get?_push_of_some _ e) (Nat.le_refl _) (ext_empty s2.heap I2.big)
  have lt : ∀ b ∈ fp, b < s2.heap.objs.size := fun b hb => let ⟨o, e, _⟩ := T.obj _ _ st2 b hb; Heap.lt_size e
  have f3 : ∀ b ∈ fp, FpOk X pins (upd H2 D (oD D)) b ∧ b < s3.heap.objs.size := fun b hb => by
    refine ⟨⟨?_, (f2 b hb).2⟩, by rw [h3, Heap.size_push]; exact Nat.lt_succ_of_lt (lt b hb)⟩
    rw [upd_ne (by rw [← eD]; exact Nat.ne_of_lt (lt b hb))]
    exact (f2 b hb).1
  have st3 : tn 0 s3.heap := T.keep _ _ _ st2 fun b _ o e => by rw [h3]; exact Heap.get?_push_of_some _ e
  have I4 := block_start I3 ok hN f3
  have pg := hg s3 (upd H2 D (oD D)) s3.heap.objs.size (cellsFrom (s3.heap.objs.size + 1) scope.names (cloFrom X.env.cells scope.names [])) fp
  have pt := ht s3 (upd H2 D (oD D)) s3.heap.objs.size (cellsFrom (s3.heap.objs.size + 1) scope.names (cloFrom X.env.cells scope.names [])) fp
  have pk := hk s3 (upd H2 D (oD D)) s3.heap.objs.size (cellsFrom (s3.heap.objs.size + 1) scope.names (cloFrom X.env.cells scope.names [])) fp
  have pe := he s3 (upd H2 D (oD D)) s3.heap.objs.size (cellsFrom (s3.heap.objs.size + 1) scope.names (cloFrom X.env.cells scope.names [])) fp
  show codeAny _ _ (.compStart (.DictComp kx vx [⟨tg, iter, ifs, 0⟩] scope pos) 0 (.ref it) (.ref D) (compEnvC scope (cellsFrom (s3.heap.objs.size + 1) scope.names (cloFrom X.env.cells scope.names [])) s3.heap.objs.size X.env)) (compPost (model X.prog X.w) X.A X.xe use Qf (.ref D) s3.heap.objs.size) { s3 with heap := pushCells (s3.heap.push { cls := .type "dict", data := .dict #[] }) scope.names }
  have nfp : ∀ b ∈ fp, (upd H2 D (oD D)) b = none := fun b hb => (f3 b hb).1.1
  generalize ece : compEnvC scope (cellsFrom (s3.heap.objs.size + 1) scope.names (cloFrom X.env.cells scope.names [])) s3.heap.objs.size X.env = ce at I4 pg pt pk pe ⊢
  have cL : ce.locals = s3.heap.objs.size := by subst ece; rfl
  generalize eH3 : upd H2 D (oD D) = H3 at I3 I4 pg pt pk pe w0 nfp f3
  generalize es4 : ({ s3 with heap := pushCells (s3.heap.push { cls := .type "dict", data := .dict #[] }) scope.names } : Shared) = s4 at I4 ⊢
  have st4 : tn 0 s4.heap := T.keep _ _ _ st3 fun b _ o e => by rw [← es4]; exact pushCells_keeps _ _ _ _ (Heap.get?_push_of_some _ e)
  let Y : Cx := X.blk s3 H3 scope ce fp
  have fpY : ∀ {σ' : L2.St} {H' : Hp} {s' : Shared}, Inv Y [] σ' H' s' → (∀ b ∈ fp, H' b = none) → ∀ b ∈ fp, FpOk Y [] H' b := fun {σ' H' s'} I' hn b hb =>
    ⟨hn b hb, (I'.ok.exf b hb).1, I'.ok.exfs b hb, .inl hb, fun x c e => (I'.ok.exf b hb).2 x c e, fun p hp => absurd (show p ∈ ([] : List (Addr × Obj)) ++ [] from hp) (by simp)⟩
  let Inn : Nat → Shared → Prop := fun n s' => ∃ i H', Inv Y [] (L2.wipe σ (own.map (·.2))) H' s' ∧ tn i s'.heap ∧ (∀ b ∈ fp, H' b = none) ∧ W i n H'
  have loop : codeAny (model X.prog X.w) X.A (.compLoop (.DictComp kx vx [⟨tg, iter, ifs, 0⟩] scope pos) 0 (.ref it) (.ref D) ce) (compPost (model X.prog X.w) X.A X.xe use Qf (.ref D) s3.heap.objs.size) s4 := by
    refine compLoop_anyD Inn ?_ m0 ⟨0, H3, I4, st4, nfp, w0⟩
    rintro n s5 ⟨i, H5, I5, st5, n5, w5⟩
    rcases turn i n H5 w5 with ⟨stop, qq⟩ | ⟨go, Nx, hNx, step⟩
    · refine thnF (T.done Y rfl rfl rfl hc i [] s5 _ H5 (fun _ _ => False) I5 (fpY I5 n5) st5 stop) fun r s6 ⟨hr, I6⟩ => ?_
      subst hr
      have I7 : Inv X pins σ H5 s6 := I3.call' (ch := fp) I6.os I6.base I6.hok I6.bare fun b hb => let z := (f3 b hb).1; ⟨z.2.2.2.1, z.2.1, z.2.2.2.2.1, z.2.2.2.2.2⟩
      have nC : H5 ce.locals = none := I6.free
      obtain ⟨m, hn, _⟩ := I6.loc
      have hn : s6.heap.Ns ce.locals m := hn
      rw [cL] at hn nC
      exact fin0 D s3.heap.objs.size s6 m H5 I7 qq hn (I3.fpOk (Nat.le_refl _) nC)
    · refine thnF (T.item Y rfl rfl rfl hc i [] s5 _ H5 (fun _ _ => False) I5 (fpY I5 n5) st5 go) fun r s6 ⟨u, hr, h6⟩ => ?_
      subst hr
      refine thnF h6 fun _ s7 ⟨x, H7, I7, r7, y7, st7, n7⟩ => ?_
      have I7' := I7.pinned (fpY I7 n7) (T.obj _ _ st7)
      refine thnF (pg.run _ s7 _ H7 x u _ I7' r7 (step x H7 y7)) fun _ s8 ⟨σ8, H8, I8, hw8, q8⟩ => thnF (pt.run _ s8 σ8 H8 _ I8 q8) fun b s9 ⟨H9, I9, q9⟩ => ?_
      have close : ∀ {s' : Shared} {H' : Hp}, Inv Y ([] ++ pinsAt fp s7.heap) σ8 H' s' → Nx H' → ∃ m, m < n ∧ Inn m s' := fun {s' H'} I' nx => by
        obtain ⟨m', hm, w'⟩ := hNx H' nx
        have keep : ∀ b ∈ fp, ∀ o, s7.heap.get? b = some o → s'.heap.get? b = some o ∧ H' b = none := fun b hb o e => let z := I'.pin (b, o) (List.mem_append_right _ (List.mem_append_right _ (mem_pinsAt hb e))); ⟨z.1, z.2.1⟩
        refine ⟨m', hm, i + 1, H', (I'.unpinned (pins := [])).weak (by rw [← hw8, wipe_length]) (fun j v e => by rw [← hw8] at e; exact (wipe_some e).1), T.keep _ _ _ st7 fun b hb o e => (keep b hb o e).1, fun b hb => ?_, w'⟩
        obtain ⟨o, e, _⟩ := T.obj _ _ st7 b hb
        exact (keep b hb o e).2
      cases b with
      | false => simp only [Bool.false_eq_true, if_false] at q9 ⊢; exact close I9 q9
      | true =>
        simp only [if_true] at q9 ⊢
        exact thnF (pk.run _ s9 σ8 H9 _ I9 q9) fun z s10 ⟨yk, H10, I10, r10, q10⟩ => thnF (pe.run _ s10 σ8 H10 _ I10 q10) fun z2 s11 ⟨yv, H11, I11, r11, qp⟩ => dct_put2 (X := Y) hu I11 r10 r11 qp fun H12 s12 I12 nx => close I12 nx
  exact codeAny_compStart_dict loop (T.self X.A 0 _ _ _ st4 loop)
theorem pe_dcx {kx vx tg iter : Expr} {ifs : List Expr} {scope : Scope} {own : List (Str × Nat)} {pos : Pos} {wi : TI} {g : L2.TG} {tt : TT} {tk tv : TE} (hu : X.A.units + 65 < cLine) (hc : X.calm = true) (hN : X.N.Nodup) (hi : PI X tg iter wi) (ok : BlkOk X.N X.env.scope scope own)
    (hg : BlkAll X scope fun Y => PG Y tg g) (ht : BlkAll X scope fun Y => PTs Y ifs tt) (hk : BlkAll X scope fun Y => PE Y kx tk) (he : BlkAll X scope fun Y => PE Y vx tv) (hs : ∀ x, foldedSetIterable iter X.env x = pure x := by intro _; rfl) :
    PE X (.DictComp kx vx [⟨tg, iter, ifs, 0⟩] scope pos) (tDcx X.K wi g tt tk tv (own.map (·.2))) := by
  refine ⟨fun pins s σ H Q I h => ?_⟩
  rw [arm_eval_DictComp]
  refine dcx_core hu hc hN I hi ok hg ht hk he hs h fun D C s' m H' I' q hn ⟨f0, f1, f2, f3, f4, f5⟩ => ⟨m, hn, fun h'' sb => ⟨.ref D, H', I'.turned (t' := s'.toks) (fun b o hb e => (sb.2 b hb).trans e) f0 f1 f3 f4 f5, rfl, q⟩⟩
end
end PP

namespace PP
open PySem PySem.Spec PyProof.Rows L2
open Res (ok exc bad)
section
variable {X : Cx}
theorem ps_setDcx {i : Nat} {y : Str} {py : Pos} {kx vx tg iter : Expr} {ifs : List Expr} {scope : Scope} {own : List (Str × Nat)} {pos spos : Pos} {wi : TI} {g : L2.TG} {tt : TT} {tk tv : TE} (hu : X.A.units + 65 < cLine) (hc : X.calm = true) (hN : X.N.Nodup) (hy : X.N[i]? = some y) (hyl : X.env.scope.names.lookup y = some .local)
    (hsw : swapsWith (.DictComp kx vx [⟨tg, iter, ifs, 0⟩] scope pos) (some (.Name y py)) spos.line X.env = pure true) (hi : PI X tg iter wi) (ok : BlkOk X.N X.env.scope scope own)
    (hg : BlkAll X scope fun Y => PG Y tg g) (ht : BlkAll X scope fun Y => PTs Y ifs tt) (hk : BlkAll X scope fun Y => PE Y kx tk) (he : BlkAll X scope fun Y => PE Y vx tv) (hs : ∀ x, foldedSetIterable iter X.env x = pure x := by intro _; rfl) :
    PS X (.Assign [.Name y py] (.DictComp kx vx [⟨tg, iter, ifs, 0⟩] scope pos) spos) (tAsg (tDcx X.K wi g tt tk tv (own.map (·.2))) (gName i)) := by
  refine ⟨fun pins s σ H D I h => ?_⟩
  rw [exec_Assign_Name_used _ _ _ _ hsw]
  refine wpAny_bind (wpAny_standAt (wpAny_bind ?_))
  show wpAny _ X.A (do let _ ← comprehension (.DictComp kx vx [⟨tg, iter, ifs, 0⟩] scope pos) scope X.env (firstIterPos [⟨tg, iter, ifs, 0⟩] pos) newDict false (eval iter X.env) (some (assign (.Name y py) X.env))) _ _ s
  refine wpAny_bind (thn (dcx_core (Q := fun x H1 => gName i x σ H1 D.nx) (Qf := fun _ s' => SP X pins D .next s') hu hc hN I hi ok hg ht hk he hs h fun L C s' m H' I' q hn ⟨f0, f1, f2, f3, f4, f5⟩ => ?_) fun _ s' hq => wpAny_pure (wpAny_pure hq))
  show wpAny _ _ (assign (.Name y py) X.env (.ref L)) _ _ _
  refine wpAny_assign_Name (store_ok2 (v := V.ref L) I' hN hy (.inl hyl) rfl (fun s2 I2 ⟨a, sb, ha⟩ => ?_) (.inr hyl))
  exact ⟨m, hn.sameBut sb (ha.elim (fun z => by rw [z]; exact f1) fun z e => f4 y a z e.symm), fun h3 sb3 => ⟨_, H', I2.turned (t' := s2.toks) (fun b o hb e => (sb3.2 b hb).trans e) f0 f1 f3 f4 f5, q⟩⟩
theorem sw_trueD {kx vx : Expr} {gs : List Comprehension} {scope : Scope} {pos py : Pos} {y : Str} {l : Nat} {env : Env} (hk : env.scope.kind = .function) (hy : env.scope.names.lookup y = some .local) (hl : (py.line == pos.line) = true)
    (ha : (scope.names.any fun (n, k) => n == y && (k == .local || k == .cell)) = false) : swapsWith (.DictComp kx vx gs scope pos) (some (.Name y py)) l env = pure true := by
  have hb : env.blockKind = .function := by unfold Env.blockKind; rw [hk]; rfl
  unfold swapsWith
  simp only [hb, show env.kindOf y = some .local from hy, ha, Expr.pos, hl]
  rfl
end
/-! ### what it makes -/
def putsD : List (D × D) → List D → Option (List (D × D))
  | kvs, [] => some kvs
  | kvs, .tup [dk, dv] :: ys => (keyT dk).bind fun k => putsD (putD kvs dk k dv) ys
  | _, _ => none
def mDc (it : Sls → Res (List D)) (vs : List Nat) (t : TgF) (tt : Sls → Res Bool) (tk tv : Sls → Res D) : Sls → Res D := fun ρ =>
  it ρ >>= fun xs => compL (lcStep vs t tt (fun ρ' => tk ρ' >>= fun k => tv ρ' >>= fun v => ok (.tup [k, v])) ρ) xs >>= fun ys => ofO ((putsD [] ys).map .dct)
theorem keysOk_put {kvs : List (D × D)} {dk dv : D} {k : NestedKey} (h : keysOk kvs = true) (hk : keyT dk = some k) : keysOk (putD kvs dk k dv) = true := by
  unfold keysOk at h ⊢
  rw [List.all_eq_true] at h ⊢
  unfold putD
  intro p hp
  split at hp
  · obtain ⟨q, hq, e⟩ := List.mem_map.mp hp
    have := h q hq
    split at e <;> (rw [← e]; exact this)
  · rcases List.mem_append.mp hp with q | q
    · exact h p q
    · rw [List.mem_singleton.mp q, hk]; rfl
theorem dc_go {K : PySem.W.Frag} {J : It} {items ys : List D} {g : L2.TG} {t : TgF} {tt : Sls → Res Bool} {tk tv : Sls → Res D} {vs : List Nat} {σ : L2.St} {H1 : Hp} {O : Addr → Prop} {ρ : Sls} {F : List Addr} {D0 : Addr} {Qd : Hp → Prop} {fin : List (D × D)} (hD : H1 D0 = none)
    (s : Sta K H1 O σ ρ F) (hw : Wk K J items H1 O) (hz : items.length ≤ sizeLine) (hg : PP.TG K g t vs) (hy : compL (lcStep vs t tt (fun ρ' => tk ρ' >>= fun k => tv ρ' >>= fun v => ok (.tup [k, v])) ρ) items = ok ys) (hf : putsD [] ys = some fin)
    (hd : ∀ H2, Same H1 H2 → RepN K H2 (Ad O D0) (.ref D0) (.dct fin) D0 → Qd H2) :
    ∃ W : Nat → Nat → Hp → Prop, (∃ m, W 0 m (upd H1 D0 (oD D0))) ∧ ∀ i m H, W i m H →
      (J.stop i H ∧ Qd H) ∨ (J.go i H ∧ ∃ Nx : Hp → Prop, (∀ H', Nx H' → ∃ m', m' < m ∧ W (i + 1) m' H') ∧ ∀ x H', J.yld i H x H' → g x (L2.wipe σ vs) H' fun σ2 H2 => L2.wipe σ2 vs = L2.wipe σ vs ∧ tET K E0' tt σ2 H2 fun b H3 =>
        if b = true then tEF K E0' tk σ2 H3 fun y H4 => tEF K E0' tv σ2 H4 fun z H5 => rPut K (.ref D0) y z H5 Nx else Nx H3) := by
  let st := lcStep vs t tt (fun ρ' => tk ρ' >>= fun k => tv ρ' >>= fun v => ok (.tup [k, v])) ρ
  let W : Nat → Nat → Hp → Prop := fun i m H2 => m + i = items.length ∧ Same H1 H2 ∧ ∃ ob xs kvs rest, H2 D0 = some (.ext (DictAt D0 ob xs)) ∧ xs.length ≤ i ∧ (xs.map (·.1)).Nodup ∧ RepKs K H2 (Ad O D0) xs kvs ∧ keysOk kvs = true ∧ compL st (items.drop i) = ok rest ∧ putsD kvs rest = some fin
  have key : ∀ H2, Same H1 H2 → (∃ φ, H2 D0 = some (.ext φ)) → Later H1 O H2 (Ad O D0) ∧ Dom H2 (Ad O D0) := by
    intro H2 e2 ⟨φ, hφ⟩
    refine ⟨fun a o h n => ⟨e2 a o h, fun z => z.elim n fun z => by subst z; rw [hD] at h; cases h⟩, fun a h => h.elim (fun h => (s.dom.same e2) a h) fun h => ?_⟩
    subst h
    exact ⟨by rw [hφ]; exact fun z => (nomatch z), noTup_ext hφ⟩
  refine ⟨W, ⟨items.length, by omega, same_new hD, _, [], [], ys, upd_same, Nat.le_refl _, List.nodup_nil, .nil, rfl, by simpa using hy, hf⟩, ?_⟩
  rintro i m H2 ⟨hm, e2, ob, xs, kvs, rest, hx, hlen, nd, hr, hk, hrest, hfin⟩
  obtain ⟨lt, dm⟩ := key H2 e2 ⟨_, hx⟩
  obtain ⟨w1, w2⟩ := hw H2 (Ad O D0) lt i
  by_cases hi : i < items.length
  · obtain ⟨go, yl⟩ := w1 items[i] (List.getElem?_eq_getElem hi)
    rw [show items.drop i = items[i] :: items.drop (i + 1) from List.drop_eq_getElem_cons hi] at hrest
    obtain ⟨r, zs, hstep, hzs, hrest'⟩ := compL_cons hrest
    refine .inr ⟨go, W (i + 1) (m - 1), fun H' w => ⟨m - 1, by omega, w⟩, fun x H3 hyl => ?_⟩
    obtain ⟨e3, rx⟩ := yl x H3 hyl
    have e13 := e2.trans e3
    have hx3 := e3 _ _ hx
    obtain ⟨_, dm3⟩ := key H3 e13 ⟨_, hx3⟩
    have s3 : Sta K H3 (Ad O D0) σ ρ F := ⟨(s.st.more hD).same e13, dm3⟩
    obtain ⟨Fw, sw⟩ := s3.wipe vs
    obtain ⟨ρ1, ht, hstep⟩ := Res.bind_ok (show (t items[i] (wipeS ρ vs) >>= fun ρ' => tt ρ' >>= fun b => if b then (tk ρ' >>= fun k => tv ρ' >>= fun v => ok (D.tup [k, v])) >>= fun y => ok (some y) else ok none) = ok r from hstep)
    obtain ⟨b, htt, hstep⟩ := Res.bind_ok hstep
    refine hg.mono _ _ _ _ _ (fun σ4 H4 q => ⟨wipe_of q.1 q.2.1, q.2.2⟩) (hg.own _ _ _ _ (hg.run H3 (Ad O D0) x items[i] _ _ Fw _ sw rx ?_))
    rw [ht]
    intro σ4 F4 s4 _
    refine ⟨ρ1, Ad O D0, F4, s4, ?_⟩
    rw [htt]
    intro H5 e5
    have e15 := e13.trans e5
    have hx5 := e5 _ _ hx3
    cases b with
    | false =>
      have : r = none := by simpa using hstep.symm
      subst this
      rw [hrest'] at hfin
      exact iteF ⟨by omega, e15, ob, xs, kvs, zs, hx5, by omega, nd, ((hr.same e3).same e5), hk, hzs, hfin⟩
    | true =>
      refine iteT ?_
      obtain ⟨pr, hpr, hstep⟩ := Res.bind_ok (show ((tk ρ1 >>= fun k => tv ρ1 >>= fun v => ok (D.tup [k, v])) >>= fun y => ok (some y)) = ok r from hstep)
      obtain ⟨dk, hdk, hpr⟩ := Res.bind_ok hpr
      obtain ⟨dv, hdv, hpr⟩ := Res.bind_ok hpr
      cases hpr
      cases hstep
      rw [hrest'] at hfin
      obtain ⟨k, hkt, hfin⟩ := Option.bind_eq_some_iff.mp (show ((keyT dk).bind fun k => putsD (putD kvs dk k dv) zs) = some fin from hfin)
      obtain ⟨k1, k2, ts, rfl⟩ := keyT_ok hkt
      refine ⟨ρ1, Ad O D0, F4, s4.same e5, ?_⟩
      rw [hdk]
      intro v H6 e6 rv
      refine ⟨ρ1, Ad O D0, F4, (s4.same e5).same e6, ?_⟩
      rw [hdv]
      intro z H7 e7 rz
      obtain ⟨ba, rfl⟩ := rv.refT
      have hx7 := e7 _ _ (e6 _ _ hx5)
      have hr7 := (((hr.same e3).same e5).same e6).same e7
      have rv7 := rv.same e7
      refine ⟨D0, ba, ob, xs, kvs, .tup ts, k, dv, Ad O D0, rfl, rfl, hx7, hr7, hk, nd, by omega, rv7, hkt, rz, fun u ob2 ru hn => ?_⟩
      have rk := hr7.put rv7 k1 ru rz
      have hl : (storedH xs k ba u).length ≤ i + 1 := by
        rw [rk.length]
        have := putD_len kvs (.tup ts) k dv
        have := hr7.length
        omega
      refine ⟨by omega, fun a o h => ?_, ob2, _, _, zs, upd_same, hl, hn, rk.upd (.inr rfl) (noTup_ext hx7), keysOk_put hk hkt, hzs, hfin⟩
      rw [upd_ne (fun z => by subst z; rw [hD] at h; cases h)]
      exact e7 _ _ (e6 _ _ (e15 _ _ h))
  · rw [List.drop_eq_nil_of_le (by omega)] at hrest
    cases hrest
    cases hfin
    exact .inl ⟨w2 (by omega), hd H2 e2 ⟨rfl, .inr rfl, ob, xs, hx, by omega, nd, hr⟩⟩
section
variable {X : Cx} {E : EX}
theorem dc_reads {own : List (Str × Nat)} {it : Sls → Res (List D)} {g : L2.TG} {t : TgF} {tt : Sls → Res Bool} {tk tv : Sls → Res D} {σ : L2.St} {H : Hp} {Q : VK} (hgt : PP.TG X.K g t (own.map (·.2))) (hq : tEN X.K E (mDc it (own.map (·.2)) t tt tk tv) σ H Q) :
    tDcx X.K (tEI X.K E it) g (tET X.K E0' tt) (tEF X.K E0' tk) (tEF X.K E0' tv) (own.map (·.2)) σ H Q := by
  obtain ⟨ρ, O, F, s, p⟩ := hq
  refine ⟨ρ, O, F, s, p.bind.imp fun xs p1 => ?_⟩
  have p2 : Po X.K E σ H (compL (lcStep (own.map (·.2)) t tt (fun ρ' => tk ρ' >>= fun k => tv ρ' >>= fun v => ok (D.tup [k, v])) ρ) xs >>= fun ys => ofO ((putsD [] ys).map .dct)) fun d => ∀ v a H', Same H H' → H a = none → RepN X.K H' (Ad O a) v d a → Q v H' := p1
  cases q : compL (lcStep (own.map (·.2)) t tt (fun ρ' => tk ρ' >>= fun k => tv ρ' >>= fun v => ok (D.tup [k, v])) ρ) xs with
  | exc c => exact (compL_exc q).elim
  | bad => rw [q] at p2; exact p2.elim
  | ok ys =>
    rw [q] at p2
    have p3 : Po X.K E σ H (ofO ((putsD [] ys).map .dct)) fun d => ∀ v a H', Same H H' → H a = none → RepN X.K H' (Ad O a) v d a → Q v H' := p2
    cases q2 : putsD [] ys with
    | none => rw [q2] at p3; exact p3.elim
    | some fin =>
      rw [q2] at p3
      exact fun J H1 e1 z w D0 hD => dc_go hD (s.same e1) w z hgt q q2 fun H2 e2 r => p3 _ D0 H2 (e1.trans e2) (e1.free hD) r
theorem en_dc {kx vx tg iter : Expr} {ifs : List Expr} {scope : Scope} {own : List (Str × Nat)} {pos : Pos} {it : Sls → Res (List D)} {g : L2.TG} {t : TgF} {tt : Sls → Res Bool} {tk tv : Sls → Res D} (hu : X.A.units + 65 < cLine) (hc : X.calm = true) (hN : X.N.Nodup) (hi : EI X E tg iter it) (ok' : BlkOk X.N X.env.scope scope own) (hgt : PP.TG X.K g t (own.map (·.2)))
    (hg : BlkAll X scope fun Y => PG Y tg g) (ht : BlkAll X scope fun Y => ETs Y E0' ifs tt) (hk : BlkAll X scope fun Y => EF Y E0' kx tk) (he : BlkAll X scope fun Y => EF Y E0' vx tv) (hs : ∀ x, foldedSetIterable iter X.env x = pure x := by intro _; rfl) :
    EN X E (.DictComp kx vx [⟨tg, iter, ifs, 0⟩] scope pos) (mDc it (own.map (·.2)) t tt tk tv) :=
  pe_imp (pe_dcx (tt := tET X.K E0' tt) (tk := tEF X.K E0' tk) (tv := tEF X.K E0' tv) hu hc hN hi ok' hg ht hk he hs) fun σ H Q hq => dc_reads hgt hq
theorem ss_setDcO (i : Nat) {y : Str} {py : Pos} {kx vx tg iter : Expr} {ifs : List Expr} {scope : Scope} {own : List (Str × Nat)} {pos spos : Pos} {it : Sls → Res (List D)} {g : L2.TG} {t : TgF} {tt : Sls → Res Bool} {tk tv : Sls → Res D} (hu : X.A.units + 65 < cLine) (hc : X.calm = true) (hN : X.N.Nodup) (hyl : X.env.scope.names.lookup y = some .local)
    (hsw : swapsWith (.DictComp kx vx [⟨tg, iter, ifs, 0⟩] scope pos) (some (.Name y py)) spos.line X.env = pure true) (hi : EI X E tg iter it) (ok' : BlkOk X.N X.env.scope scope own) (hgt : PP.TG X.K g t (own.map (·.2)))
    (hg : BlkAll X scope fun Y => PG Y tg g) (ht : BlkAll X scope fun Y => ETs Y E0' ifs tt) (hk : BlkAll X scope fun Y => EF Y E0' kx tk) (he : BlkAll X scope fun Y => EF Y E0' vx tv) (hy : X.N[i]? = some y := by rfl) (hs : ∀ x, foldedSetIterable iter X.env x = pure x := by intro _; rfl) :
    SS X E (.Assign [.Name y py] (.DictComp kx vx [⟨tg, iter, ifs, 0⟩] scope pos) spos) (sSetO i (mDc it (own.map (·.2)) t tt tk tv)) :=
  ps_imp (ps_setDcx (tt := tET X.K E0' tt) (tk := tEF X.K E0' tk) (tv := tEF X.K E0' tv) hu hc hN hy hyl hsw hi ok' hg ht hk he hs) fun D σ H hq => dc_reads hgt (setO_reads hq)
theorem ss_setDc (i : Nat) {y : Str} {py : Pos} {kx vx tg iter : Expr} {ifs : List Expr} {scope : Scope} {own : List (Str × Nat)} {pos spos : Pos} {it : Sls → Res (List D)} {g : L2.TG} {t : TgF} {tt : Sls → Res Bool} {tk tv : Sls → Res D} (hu : X.A.units + 65 < cLine) (hc : X.calm = true) (hN : X.N.Nodup) (hyl : X.env.scope.names.lookup y = some .local)
    (hsw : swapsWith (.DictComp kx vx [⟨tg, iter, ifs, 0⟩] scope pos) (some (.Name y py)) spos.line X.env = pure true) (hi : EI X E tg iter it) (ok' : BlkOk X.N X.env.scope scope own) (hgt : PP.TG X.K g t (own.map (·.2)))
    (hg : BlkAll X scope fun Y => PG Y tg g) (ht : BlkAll X scope fun Y => ETs Y E0' ifs tt) (hk : BlkAll X scope fun Y => EF Y E0' kx tk) (he : BlkAll X scope fun Y => EF Y E0' vx tv) (hy : X.N[i]? = some y := by rfl) (hs : ∀ x, foldedSetIterable iter X.env x = pure x := by intro _; rfl) :
    SS X E (.Assign [.Name y py] (.DictComp kx vx [⟨tg, iter, ifs, 0⟩] scope pos) spos) (sSet i (mDc it (own.map (·.2)) t tt tk tv)) :=
  ps_imp (ps_setDcx (tt := tET X.K E0' tt) (tk := tEF X.K E0' tk) (tv := tEF X.K E0' tv) hu hc hN hy hyl hsw hi ok' hg ht hk he hs) fun D σ H hq => dc_reads hgt (en_ef (D' := D) (setF_reads hq))
end
end PP

namespace PP
open PySem PySem.Spec PyProof.Rows L2 TS
open Res (ok exc bad)
/-! ### sorted(set(t)), t a tuple of pairs of small numbers -/
abbrev oSet (w : World) : Obj := { cls := .type "set", dict := none, data := .set #[] 0 (.fresh 0 0 (!w.params.followText "set-order")) }
section
variable {P : Program} {w : World} {A : Around} {E : Value → Shared → Prop} {s : Shared}
/-- what set.__init__ leaves when a tuple of tuples is given -/
def Made (P : Program) (w : World) (ks : List (Addr × List Int)) (s s2 : Shared) : Prop := ∃ h' tk L es ep t, s2 = { s with heap := h', toks := tk } ∧ SetTR P w h' s.heap.objs.size L es ep t ∧ Got ks ks.length L ∧ ∀ b o, s.heap.get? b = some o → h'.get? b = some o
theorem set_from_tuple {l : Addr} {items : Array Value} (ks : List (Addr × List Int)) {Q : Value → Shared → Prop} (hh : A.handled = none) (hl : s.heap.IsTuple l items) (hit : items.toList = ks.map fun p => Value.ref p.1)
    (hk : ∀ p ∈ ks, IsT P w s.heap p.2 p.1) (hfew : ks.length < 64) (hu : A.units + 3 < cLine) (h : ∀ s2, Made P w ks s s2 → Q (.ref s.heap.objs.size) s2) : wpAny (model P w) A (call (.type "set") [.ref l]) Q E s := by
  have len : items.size = ks.length := by rw [← Array.length_toList, hit, List.length_map]
  have ⟨c, tl, hmro⟩ := F.called_set.mro
  have hmade := F.called_set.made
  have hsub := F.called_set.sub
  have nt := F.called_set.notType
  have cc := F.called_set.canCreate
  have hct := F.typeCall_set_1 (.ref l)
  refine wpAny_call (codeAny_of_tree ?_)
  show wpAny _ _ (callAny (.type "set") _) _ _ _
  refine wpAny_pure ⟨Code.quiet_builtin _ (by decide +kernel), codeAny_builtin F.entry_type_call ?_⟩
  rw [Around.under_plain (weight_type_call_type "set" [.ref l] []) rfl]
  repeat (any_goals (first | assumption | wp_step))
  refine codeAny_mono (code_set_led1 (.ref l) (E := E) (Q₁ := fun obj s1 => obj = .ref s.heap.objs.size ∧ s1 = { s with heap := s.heap.push (oSet w) }) ⟨rfl, rfl⟩) fun r s1 hr => ?_
  match r, hr with
  | .error e, hr => exact hr
  | .ok (.ret obj), hr =>
    obtain ⟨rfl, rfl⟩ := hr
    have gS : (s.heap.push (oSet w)).get? s.heap.objs.size = some (oSet w) := Heap.get?_push_size _ rfl
    have tS : Shared.TypeIs { s with heap := s.heap.push (oSet w) } (.ref s.heap.objs.size) "set" := ⟨_, gS, rfl⟩
    have hli := F.called_set.init.lookup
    have hbi := F.called_set.init.bind (.ref s.heap.objs.size)
    repeat (any_goals (first | assumption | wp_step))
    refine codeAny_mono (codeAny_call_builtin (R := wants (fun r s2 => r = .none ∧ Made P w ks s s2) E) F.called_set.init.plain F.entry_set_init (check_set_init_1 tS ?_)) fun r2 s2 hr2 => ?_
    · obtain ⟨⟨ocls, odict, odata, oslots⟩, hol, hcl, nl, hdl⟩ := hl
      simp only at hcl hdl
      subst hcl hdl
      have hol' : (s.heap.push (oSet w)).get? l = some { cls := .type "tuple", dict := odict, data := .seq items nl, slots := oslots } := Heap.get?_push_of_some _ hol
      have hl1 : (s.heap.push (oSet w)).IsTuple l items := ⟨_, hol', rfl, nl, rfl⟩
      have hsls := F.sub_tuple_set
      have hslf := F.sub_tuple_frozenset
      have hne : (Value.type "tuple" == Value.type "dict") = false := by decide
      unfold Builtin.«set.__init__» noKeywords Builtin.Frozenset.updateFrom
      generalize hPI : pyIter = PI
      wp_walk
      subst hPI
      refine wpAny_pyIter_tuple hl1 (wpAny_bind (wpAny_runValue ?_))
      have lS : l < s.heap.objs.size := Heap.lt_size hol
      have pz : (s.heap.push (oSet w)).objs.size = s.heap.objs.size + 1 := Heap.size_push ..
      have nI : l ≠ (s.heap.push (oSet w)).objs.size := by rw [pz]; exact Nat.ne_of_lt (Nat.lt_succ_of_lt lS)
      have nS : s.heap.objs.size ∉ [(s.heap.push (oSet w)).objs.size, l] := by
        rw [pz]
        simp only [List.mem_cons, List.not_mem_nil, or_false, not_or]
        exact ⟨Nat.ne_of_lt (Nat.lt_succ_self _), Nat.ne_of_gt lS⟩
      have hval : ∀ (i : Nat) (v : Value), items[i]? = some v → ∃ p, ks[i]? = some p ∧ v = .ref p.1 := fun i v hv => by
        rw [← Array.getElem?_toList, hit, List.getElem?_map] at hv
        obtain ⟨p, e1, e2⟩ := Option.map_eq_some_iff.mp hv
        exact ⟨p, e1, e2.symm⟩
      have free : ∀ b, s.heap.objs.size ≤ b → s.heap.get? b = none := fun b hb => by
        cases q : s.heap.get? b with
        | none => rfl
        | some o => exact absurd (Heap.lt_size q) (Nat.not_lt_of_le hb)
      have hh3 : A.in1.in1.in1.handled = none := by simp [hh]
      refine set_update_tups ((Walks.tuple hh3 _ l nI items).toS) s.heap.objs.size nS ks len hfew hval s.heap hk (free _ (Nat.le_refl _)) (fun b hb => free b (by rw [List.mem_singleton.mp hb, pz]; exact Nat.le_succ _)) hu (items.size - 0) 0 _ (by omega) (Nat.zero_le _)
        ⟨⟨_, Heap.get?_push_size _ rfl, rfl, rfl⟩, (hl1.push _)⟩ (fun b o e => Heap.get?_push_of_some _ (Heap.get?_push_of_some _ e)) ⟨[], #[], 0, _, setTR_fresh (Heap.get?_push_of_some _ gS), Got.zero ks⟩ fun s' L es ep t hm hS' g' hkp => ?_
      obtain ⟨h', g2, d', tk', os'⟩ := s'
      have eg : g2 = s.gens := hm.gens
      have ed : d' = s.drawn := hm.drawn
      have eo : os' = s.os := hm.os
      subst eg ed eo
      rw [len] at g'
      show wpAny _ _ _ _ _ _
      refine wpAny_pure ?_
      show wpAny _ _ (ret Value.none) _ _ _
      exact wpAny_pure ⟨rfl, h', tk', L, es, ep, t, rfl, hS', g', hkp⟩
    · match r2, hr2 with
      | .error e, hr2 => exact hr2
      | .ok (.ret r), hr2 =>
        obtain ⟨rfl, m⟩ := hr2
        repeat (any_goals (first | assumption | wp_step))
        exact h _ m
end
section
variable {X : Cx}
/-- set(t) of a tuple, as rSetOfT of a list -/
def rSetT (K : PySem.W.Frag) (P : Program) (w : World) : List V → Hp → VK → Prop := fun xs H Q => ∃ (l : Addr) (ks : List (Addr × List Int)), xs = [V.ref l] ∧ SqT K H l (ks.map fun p => V.ref p.1) ∧ (∀ p ∈ ks, SqT K H p.1 (p.2.map V.int)) ∧ ks.length < 64 ∧
  ∀ a L, H a = none → (∀ p ∈ L, p ∈ ks) → (∀ p ∈ ks, p.2 ∈ L.map (·.2)) → Q (.ref a) (upd H a (SetTO P w a L))
theorem cr_setT (hc : X.calm = true) (hu : X.A.units + 65 < cLine) : CallR X (.type "set") (rSetT X.K X.prog X.w) := by
  intro pins s σ H xs us Q I r ⟨l, ks, ex, hl, hk, hf, q⟩
  subst ex
  rw [Vals.ref1 r]
  obtain ⟨its, rv, pl, hz⟩ := I.tuple hl
  refine set_from_tuple (P := X.prog) (w := X.w) ks (I.ok.hd hc) pl (by simpa using refs_of_vals rv) (fun p hp => I.isT (hk p hp)) hf (by omega) fun s2 ⟨h', tk, L, es, ep, t, e, R, g, k⟩ => ?_
  subst e
  exact ⟨.ref s.heap.objs.size, _, I.laid (t' := tk) k (Nat.le_refl _) (setTO_new R.t0), rfl, q _ L (I.hok.fresh (Nat.le_refl _)) (fun p hp => List.mem_of_mem_take (g.sub p hp)) fun p hp => g.all p (by rw [List.take_length]; exact hp)⟩
end
end PP

namespace PP
def leP (a b : Int × Int) : Bool := decide (a.1 < b.1 ∨ (a.1 = b.1 ∧ a.2 ≤ b.2))
def leH (a b : (Int × Int) × Int) : Bool := if a.1 = b.1 then decide (a.2 ≤ b.2) else leP a.1 b.1
end PP

namespace PP
open PySem PySem.Spec PyProof.Rows L2
open Res (ok exc bad)
/-! ### sorted(set(t)) as a rule -/
abbrev PI2 := Int × Int
def nodups : List PI2 → List PI2
  | [] => []
  | p :: ps => if p ∈ nodups ps then nodups ps else p :: nodups ps
theorem mem_nodups {x : PI2} : ∀ {ps : List PI2}, x ∈ nodups ps ↔ x ∈ ps
  | [] => Iff.rfl
  | p :: ps => by
    unfold nodups
    have ih := mem_nodups (x := x) (ps := ps)
    split
    · rename_i h
      rw [ih, List.mem_cons]
      exact ⟨.inr, fun q => q.elim (fun e => by rw [e]; exact mem_nodups.mp h) id⟩
    · rw [List.mem_cons, List.mem_cons, ih]
theorem nd_nodups : ∀ ps : List PI2, (nodups ps).Nodup
  | [] => List.nodup_nil
  | p :: ps => by
    unfold nodups
    split
    · exact nd_nodups ps
    · rename_i h
      exact List.nodup_cons.mpr ⟨h, nd_nodups ps⟩
def below (p : PI2) : Prop := (0 ≤ p.1 ∧ p.1 < 64) ∧ 0 ≤ p.2 ∧ p.2 < 64
instance (p : PI2) : Decidable (below p) := by unfold below; infer_instance
/-- strictly ascending -/
def ltQ (a b : PI2) : Prop := a.1 < b.1 ∨ (a.1 = b.1 ∧ a.2 < b.2)
theorem eq_asc : ∀ (l m : List PI2), l.Pairwise ltQ → m.Pairwise ltQ → (∀ x, x ∈ l ↔ x ∈ m) → l = m
  | [], [], _, _, _ => rfl
  | [], b :: m, _, _, h => absurd ((h b).mpr (by simp)) (by simp)
  | a :: l, [], _, _, h => absurd ((h a).mp (by simp)) (by simp)
  | a :: l, b :: m, hl, hm, h => by
    have l1 := List.pairwise_cons.mp hl
    have m1 := List.pairwise_cons.mp hm
    have irr : ∀ x : PI2, ¬ ltQ x x := fun x => by unfold ltQ; omega
    have e : a = b := by
      rcases List.mem_cons.mp ((h a).mp (by simp)) with q | q
      · exact q
      · rcases List.mem_cons.mp ((h b).mpr (by simp)) with r | r
        · exact r.symm
        · have x := l1.1 b r
          have y := m1.1 a q
          unfold ltQ at x y
          omega
    subst e
    rw [eq_asc l m l1.2 m1.2 fun x => ⟨fun hx => ?_, fun hx => ?_⟩]
    · exact (List.mem_cons.mp ((h x).mp (by simp [hx]))).resolve_left fun e => irr a (e ▸ l1.1 x hx)
    · exact (List.mem_cons.mp ((h x).mpr (by simp [hx]))).resolve_left fun e => irr a (e ▸ m1.1 x hx)
theorem sort_asc {l : List PI2} (nd : l.Nodup) : (l.mergeSort leP).Pairwise ltQ := by
  have tr : ∀ a b c : PI2, leP a b = true → leP b c = true → leP a c = true := fun a b c => by unfold leP; simp only [decide_eq_true_eq]; omega
  have tot : ∀ a b : PI2, (leP a b || leP b a) = true := fun a b => by unfold leP; simp only [Bool.or_eq_true, decide_eq_true_eq]; omega
  have n : (l.mergeSort leP).Pairwise fun a b => a ≠ b := ((List.mergeSort_perm l leP).nodup_iff).mpr nd
  refine ((List.pairwise_mergeSort tr tot l).and n).imp fun {a b} ⟨h, ne⟩ => ?_
  unfold leP at h
  simp only [decide_eq_true_eq] at h
  unfold ltQ
  by_cases e : a.1 = b.1
  · have : a.2 ≠ b.2 := fun f => ne (Prod.ext e f)
    omega
  · omega
def prs : List D → Option (List PI2)
  | [] => some []
  | .tup [.int a, .int b] :: ds => (prs ds).map fun ps => (a, b) :: ps
  | _ => none
theorem prs_eq : ∀ {ds : List D} {ps : List PI2}, prs ds = some ps → ds = ps.map fun p => D.tup [.int p.1, .int p.2]
  | [], _, e => by cases e; rfl
  | .tup [.int a, .int b] :: ds, _, e => by
    obtain ⟨ps, e1, rfl⟩ := Option.map_eq_some_iff.mp (show (prs ds).map (fun ps => (a, b) :: ps) = _ from e)
    rw [prs_eq e1]
    rfl
  | .non :: _, _, e => by cases e
  | .bl _ :: _, _, e => by cases e
  | .int _ :: _, _, e => by cases e
  | .str _ :: _, _, e => by cases e
  | .ty _ :: _, _, e => by cases e
  | .lst _ :: _, _, e => by cases e
  | .kl _ :: _, _, e => by cases e
  | .obj _ _ :: _, _, e => by cases e
  | .dct _ :: _, _, e => by cases e
  | .tup [] :: _, _, e => by cases e
  | .tup [_] :: _, _, e => by simp [prs] at e
  | .tup (_ :: _ :: _ :: _) :: _, _, e => by simp [prs] at e
  | .tup [x, y] :: _, _, e => by
    cases x <;> cases y <;> first | (simp [prs] at e; done) | skip
    obtain ⟨ps, e1, rfl⟩ := Option.map_eq_some_iff.mp e
    rw [prs_eq e1]
    rfl
def dSS : List D → Option D
  | [.tup xs] => (prs xs).bind fun ps => if ps.length < 64 ∧ ∀ p ∈ ps, below p then some (.lst (((nodups ps).mergeSort leP).map fun p => D.tup [.int p.1, .int p.2])) else none
  | _ => none
theorem reps_ks {K : PySem.W.Frag} {H : Hp} {O : Addr → Prop} : ∀ {vs : List V} {ps : List PI2}, Reps K H O vs (ps.map fun p => D.tup [.int p.1, .int p.2]) → ∃ ks : List (Addr × List Int), vs = ks.map (fun q => V.ref q.1) ∧ ks.map (·.2) = ps.map (fun p => [p.1, p.2]) ∧ ∀ q ∈ ks, SqT K H q.1 (q.2.map V.int)
  | _, [], .nil => ⟨[], rfl, rfl, fun _ h => by simp at h⟩
  | _, p :: ps, .cons r t => by
    obtain ⟨ks, e1, e2, e3⟩ := reps_ks t
    cases r with
    | tup h z r =>
      rename_i a ws
      cases r with
      | cons r1 r2 =>
        cases r2 with
        | cons r2 r3 =>
          cases r3
          cases r1
          cases r2
          exact ⟨(a, [p.1, p.2]) :: ks, by rw [e1]; rfl, by rw [List.map_cons, e2]; rfl, fun q hq => by
            rcases List.mem_cons.mp hq with e | e
            · rw [e]; exact h
            · exact e3 q e⟩
theorem ks_reps {K : PySem.W.Frag} {H : Hp} {O : Addr → Prop} : ∀ {L : List (Addr × List Int)} {ps : List PI2}, L.map (·.2) = ps.map (fun p => [p.1, p.2]) → (∀ q ∈ L, SqT K H q.1 (q.2.map V.int)) → Reps K H O (L.map fun q => V.ref q.1) (ps.map fun p => D.tup [.int p.1, .int p.2])
  | [], [], _, _ => .nil
  | [], _ :: _, e, _ => by simp at e
  | _ :: _, [], e, _ => by simp at e
  | q :: L, p :: ps, e, h => by
    simp only [List.map_cons, List.cons.injEq] at e
    have h0 := h q (by simp)
    rw [e.1] at h0
    exact .cons (.tup h0 (by rw [sizeLine_eq]; show 2 ≤ 16777216; decide) (.cons (.int _) (.cons (.int _) .nil))) (ks_reps e.2 fun r hr => h r (by simp [hr]))
theorem two_of {q : List Int} {ps : List PI2} (h : q ∈ ps.map fun p => [p.1, p.2]) : ∃ p ∈ ps, q = [p.1, p.2] := by
  obtain ⟨p, hp, e⟩ := List.mem_map.mp h
  exact ⟨p, hp, e.symm⟩
section
variable {X : Cx} {E : EX}
theorem sset_go {H1 : Hp} {O : Addr → Prop} {Q : VK} {vs : List V} {ds : List D} {P : Program} {w : World} (r : RepBs X.K H1 O vs ds) (q : VN X.K H1 O Q (dSS ds)) :
    rSetT X.K P w vs H1 fun v H2 => rSortedT X.K P w [v] H2 Q := by
  unfold dSS at q
  split at q
  · rename_i xs
    cases ep : prs xs with
    | none => rw [ep] at q; exact q.elim
    | some ps =>
      rw [ep, Option.bind_some] at q
      by_cases hc : ps.length < 64 ∧ ∀ p ∈ ps, below p
      · rw [if_pos hc] at q
        have exs := prs_eq ep
        subst exs
        cases r with
        | cons rb rn =>
        cases rn
        obtain ⟨a, us, rfl, ha, hz, ru⟩ := rb.tup
        obtain ⟨ks, rfl, e2, e3⟩ := reps_ks ru
        have lk : ks.length = ps.length := by
          have := congrArg List.length e2
          simpa using this
        refine ⟨a, ks, rfl, ha, e3, by omega, fun b L nb sub cov => ?_⟩
        have sm : Same H1 (upd H1 b (SetTO P w b L)) := same_new nb
        have in2 : ∀ q ∈ ks, ∃ p ∈ ps, q.2 = [p.1, p.2] := fun q hq => two_of (by rw [← e2]; exact List.mem_map_of_mem hq)
        have sqs : ∀ q ∈ ks, SqT X.K (upd H1 b (SetTO P w b L)) q.1 (q.2.map V.int) := fun q hq => sqt_same sm (e3 q hq)
        refine ⟨b, L, 2, 64, rfl, upd_same, fun q hq => sqs q (sub q hq), by decide, fun q hq => ?_, fun L' c pm nd few asc nc => ?_⟩
        · obtain ⟨p, hp, e⟩ := in2 q (sub q hq)
          obtain ⟨⟨b1, b2⟩, b3, b4⟩ := hc.2 p hp
          rw [e]
          refine ⟨rfl, fun n hn => ?_⟩
          simp only [List.mem_cons, List.not_mem_nil, or_false] at hn
          rcases hn with rfl | rfl
          · exact ⟨b1, b2⟩
          · exact ⟨b3, b4⟩
        · have inL : ∀ q ∈ L', ∃ p ∈ ps, q.2 = [p.1, p.2] := fun q hq => in2 q (sub q (pm.mem_iff.mp hq))
          obtain ⟨ls, els⟩ : ∃ ls : List PI2, L'.map (·.2) = ls.map (fun p => [p.1, p.2]) := by
            clear asc nd pm few
            induction L' with
            | nil => exact ⟨[], rfl⟩
            | cons q L' ih =>
              obtain ⟨ls, e⟩ := ih (fun q hq => inL q (by simp [hq]))
              obtain ⟨p, _, ep⟩ := inL q (by simp)
              exact ⟨p :: ls, by rw [List.map_cons, List.map_cons, e, ep]⟩
          have inj2 : ∀ {p p' : PI2}, [p.1, p.2] = [p'.1, p'.2] → p = p' := fun {p p'} e => by
            injection e with e1 e
            injection e with e2 e
            exact Prod.ext e1 e2
          have memls : ∀ x, x ∈ ls ↔ x ∈ ps := fun x => by
            have : [x.1, x.2] ∈ ls.map (fun p => [p.1, p.2]) ↔ x ∈ ls := ⟨fun h => by obtain ⟨p, hp, e⟩ := two_of h; rw [inj2 e]; exact hp, fun h => List.mem_map.mpr ⟨x, h, rfl⟩⟩
            rw [← this, ← els, (pm.map (·.2)).mem_iff]
            constructor
            · intro h
              obtain ⟨q, hq, e⟩ := List.mem_map.mp h
              obtain ⟨p, hp, e'⟩ := in2 q (sub q hq)
              rw [inj2 (e.symm.trans e')]
              exact hp
            · intro h
              have : [x.1, x.2] ∈ ks.map (·.2) := by rw [e2]; exact List.mem_map.mpr ⟨x, h, rfl⟩
              obtain ⟨q, hq, e⟩ := List.mem_map.mp this
              rw [← e]
              exact cov q hq
          have ndls : ls.Nodup := by
            rw [els] at nd
            exact List.Pairwise.of_map _ (fun a b hab e => hab (by rw [e])) nd
          have ascls : ls.Pairwise ltQ := by
            have a1 : (L'.map (·.2)).Pairwise fun q r => TS.code 64 q ≤ TS.code 64 r := List.pairwise_map.mpr asc
            rw [els, List.pairwise_map] at a1
            refine List.Pairwise.imp_of_mem (fun {x y} hx hy h => ?_) (a1.and ndls)
            obtain ⟨⟨b1, b2⟩, b3, b4⟩ := hc.2 x ((memls x).mp hx)
            obtain ⟨⟨c1, c2⟩, c3, c4⟩ := hc.2 y ((memls y).mp hy)
            exact L2.pair_lt h.1 (fun e => h.2 (inj2 e)) ⟨b1, b2⟩ ⟨b3, b4⟩ ⟨c1, c2⟩ ⟨c3, c4⟩
          have els2 : ls = (nodups ps).mergeSort leP := eq_asc _ _ ascls (sort_asc (nd_nodups ps)) fun x => by
            rw [List.mem_mergeSort, mem_nodups]
            exact memls x
          subst els2
          have cb : c ≠ b := fun e => by rw [e, upd_same] at nc; cases nc
          have sm2 : Same H1 (upd (upd H1 b (SetTO P w b L)) c (.lst (L'.map fun q => V.ref q.1))) := sm.trans (same_new nc)
          have nc1 : H1 c = none := by rw [upd_ne cb] at nc; exact nc
          refine q (.ref c) c _ sm2 nc1 ⟨rfl, .inr rfl, _, upd_same, by rw [List.length_map, sizeLine_eq]; omega, ?_⟩
          exact ks_reps els fun q hq => sqt_same (same_new nc) (sqs q (sub q (pm.mem_iff.mp hq)))
      · rw [if_neg hc] at q
        exact q.elim
  · exact q.elim
theorem en_sset {e : Expr} {f : Sls → Res D} {p p2 pos pos2 : Pos} (hc : X.calm = true) (hu : X.A.units + 65 < cLine) (hm : X.mg "sorted" = none) (hm2 : X.mg "set" = none) (he : EB X E e f) (hg : Gl X "sorted" := by rfl) (hg2 : Gl X "set" := by rfl)
    (hs : starEach [e] X.env = (false, eval e X.env) :: starEach [] X.env := by rfl) (hs2 : starEach [.Call (.Name "set" p2) [e] [] pos2] X.env = (false, eval (.Call (.Name "set" p2) [e] [] pos2) X.env) :: starEach [] X.env := by rfl) :
    EN X E (.Call (.Name "sorted" p) [.Call (.Name "set" p2) [e] [] pos2] [] pos) (mBI dSS [f]) :=
  pe_imp (pe_callB (cr_sortedT hc) hg hm (by decide +kernel) (pa_cons (pe_callTy (cr_setT hc hu) hg2 hm2 (by decide +kernel) (ec_cons he ec_nil hs) (by decide) (by decide) hs rfl) pa_nil hs2) (by decide) (by decide) hs2 rfl) fun σ H Q ⟨ρ, O, FF, s, p⟩ => ⟨ρ, O, FF, s, p.bind.imp fun ds p1 vs H1 e1 r1 => sset_go r1 (p1.vn e1)⟩
end
end PP

namespace PP
open PySem PySem.Spec PyProof.Rows L2
open Res (ok exc bad)
/-! ### enumerate of a tuple -/
abbrev enO (i : Addr) : Obj := { cls := .type "enumerate", data := .fields #[.none, .bool false, .ref i, rawInt 0, .none, .none] }
theorem enum_new1 {u : Value} {ob : Obj} {G : Heap → Prop} (bg : Begins u ob G) :
    Meets (Builtin.«enumerate.__new__» ⟨[.type "enumerate", u], []⟩) (fun _ R s => G s.heap ∧ R (.ok (.ret (.ref (s.heap.push ob).objs.size))) { s with heap := (s.heap.push ob).push (enO s.heap.objs.size) }) :=
  .of_wp fun pr wo A R s pre => by
    obtain ⟨h0, ge, dr, to, os0⟩ := s
    obtain ⟨g0, goal⟩ := pre
    have sbt := sub_enumerate
    have walkIt : ∀ {A1 : Around} {E1 : Value → Shared → Prop} {Q1 : Value → Shared → Prop}, Q1 (.ref h0.objs.size) ⟨h0.push ob, ge, dr, to, os0⟩ → wpAny (model pr wo) A1 (pyIter u) Q1 E1 ⟨h0, ge, dr, to, os0⟩ := fun z =>
      bg.iter pr wo _ _ ⟨h0, ge, dr, to, os0⟩ _ g0 z
    wp_walk using walkIt
    refine wpAny_stack_any fun stk => wpAny_pure ?_
    split
    · rename_i cc _ _ _ _ _
      cases (cc == Value.type "enumerate") <;> (wp_walk using walkIt; exact ⟨_, rfl, goal⟩)
    · wp_walk using walkIt
      exact ⟨_, rfl, goal⟩
theorem call_enum1 {P : Program} {w : World} {A : Around} {E : Value → Shared → Prop} {s : Shared} {u : Value} {ob : Obj} {G : Heap → Prop} {Q : Value → Shared → Prop} (bg : Begins u ob G) (g0 : G s.heap)
    (q : ∀ h', IsEnum h' (s.heap.objs.size + 1) s.heap.objs.size 0 .none → h'.get? s.heap.objs.size = some ob → (∀ b x, s.heap.get? b = some x → h'.get? b = some x) → Q (.ref (s.heap.objs.size + 1)) { s with heap := h' }) :
    wpAny (model P w) A (call (.type "enumerate") [u]) Q E s := by
  refine callType_new F.called_enumerate (by decide) (F.typeCall_enumerate_1 _) (F.newCall_enumerate_1 _) (fun obj => F.args_object_init_2 obj _) F.entry_enumerate_new (enum_new1 bg) ⟨g0, ?_⟩
  have sz : (s.heap.push ob).objs.size = s.heap.objs.size + 1 := Heap.size_push ..
  have at1 : ((s.heap.push ob).push (enO s.heap.objs.size)).get? (s.heap.push ob).objs.size = some (enO s.heap.objs.size) := Heap.get?_push_size _ rfl
  show _ ∧ _
  rw [sz] at at1 ⊢
  exact ⟨⟨_, at1, rfl⟩, q _ at1 (Heap.get?_push_of_some _ (Heap.get?_push_size _ bg.free)) fun b x e => Heap.get?_push_of_some _ (Heap.get?_push_of_some _ e)⟩
/-- the tuple at a, each item in a new pair -/
def IteT (K : PySem.W.Frag) (a : Addr) (xs : List V) : It where
  go i H := SqT K H a xs ∧ ∃ x, xs[i]? = some x
  yld i H v H' := ∃ T x, v = .ref T ∧ H T = none ∧ H' = upd H T (.tup [.int (i : Nat), x]) ∧ xs[i]? = some x
  stop i H := SqT K H a xs ∧ xs.length ≤ i
/-- the enumerate object at e, over the tuple's iterator at j -/
def EnAt (a e j : Addr) (n i : Nat) (h : Heap) : Prop := (∃ old, IsEnum h e j ((i : Nat) : Int) old) ∧ h.IsTupleIter j a i ∧ i ≤ n ∧ e ≠ j ∧ e ≠ a ∧ a ≠ j
theorem turn_enumT {P : Program} {w : World} {K : PySem.W.Frag} {elts : List Expr} {kk : Nat} {tpos : Pos} (a e j : Addr) (xs : List V) : Turn P w K (.Tuple elts kk tpos) (IteT K a xs) [e, j] e (EnAt a e j xs.length) where
  mem := by simp
  obj := by
    intro i h ⟨⟨old, ee⟩, ⟨o, ho, hc, hd⟩, _⟩ b hb
    rcases (by simpa using hb : b = e ∨ b = j) with z | z <;> subst z
    · exact ⟨_, ee, fun v q => nomatch q⟩
    · exact ⟨o, ho, fun v q => by rw [hd] at q; cases q⟩
  keep := fun i h h' ⟨⟨old, ee⟩, ti, ne⟩ k => ⟨⟨old, k e (by simp) _ ee⟩, ti.at fun o q => k j (by simp) o q, ne⟩
  item := by
    intro X eP eW eK cm i pins s σ H E I fr ⟨⟨old, ee⟩, ti, le1, nej, nea, naj⟩ ⟨sq, x, hx⟩
    subst eP eW eK
    obtain ⟨its, rv, tp, _⟩ := I.tuple sq
    obtain ⟨u, hu, ru⟩ := rv.get hx
    have hu' : its.toArray[i]? = some u := by simpa using hu
    have le : e < s.heap.objs.size := Heap.lt_size ee
    have lj : j < s.heap.objs.size := by obtain ⟨_, q, _⟩ := ti; exact Heap.lt_size q
    have hd1 : X.A.in1.handled = none := by simp [I.ok.hd cm]
    have hlt : i < its.toArray.size := (Array.getElem?_eq_some_iff.mp hu').1
    have hxl : i < xs.length := (List.getElem?_eq_some_iff.mp hx).1
    refine wpAny_pyNext_enum_itemD (Draws.tuple hd1 j a naj its.toArray) ee ⟨ti, tp⟩ hlt nej (by simp only [List.mem_cons, List.not_mem_nil, or_false, not_or]; exact ⟨nej, nea⟩) fun y h1 tk hy out ⟨ti1, _⟩ tup1 sz1 keep1 => ?_
    obtain rfl : y = u := Option.some.inj (hy.symm.trans hu')
    refine ⟨_, rfl, wpAny_letOwnedTupleGo_enum (s := { s with heap := h1, toks := tk + 1 }) out fun h2 ee2 sb => ?_⟩
    have tup2 : h2.get? s.heap.objs.size = some { cls := .type "tuple", data := .seq #[.int i tk, y] } := (sb.2 _ (Nat.ne_of_gt le)).trans tup1
    have ob2 : ObjOk X.prog X.w (upd H s.heap.objs.size (.tup [.int (i : Nat), x])) h2 s.heap.objs.size (.tup [.int (i : Nat), x]) := ⟨by show 2 ≤ sizeLine; decide, [.int i tk, y], .cons ⟨_, rfl⟩ (.cons ru .nil), _, tup2, rfl, _, rfl⟩
    have I2 : Inv X pins σ (upd H s.heap.objs.size (.tup [.int (i : Nat), x])) { s with heap := h2, toks := tk + 1 } := by
      refine I.turnedNew (ch := [e, j]) (fun b ob hb q => ?_) fr (Nat.le_refl _) ob2
      have hbe : b ≠ e := fun z => hb (by simp [z])
      exact (sb.2 b hbe).trans (keep1 b ob hbe (fun z => hb (by simp [z])) q)
    refine ⟨.ref s.heap.objs.size, _, I2, rfl, ⟨_, x, rfl, I.hok.fresh (Nat.le_refl _), rfl, hx⟩, ⟨⟨y, by rw [Int.natCast_succ]; exact ee2⟩, ti1.at fun o q => (sb.2 j (Ne.symm nej)).trans q, hxl, nej, nea, naj⟩, fun b hb => ?_⟩
    rw [upd_ne (Nat.ne_of_lt ((by simpa using hb : b = e ∨ b = j).elim (fun z => z ▸ le) fun z => z ▸ lj))]
    exact (fr b hb).1
  done := by
    intro X eP eW eK cm i pins s σ H E I fr ⟨⟨old, ee⟩, ti, le1, nej, nea, naj⟩ ⟨sq, hx⟩
    subst eP eW eK
    obtain ⟨its, rv, tp, _⟩ := I.tuple sq
    obtain ⟨f0, f1, f2, f3, f4, f5⟩ := fr j (by simp)
    have hd1 : X.A.in1.handled = none := by simp [I.ok.hd cm]
    have hn : i = its.toArray.size := by rw [List.size_toArray, ← rv.length]; omega
    subst hn
    exact wpAny_pyNext_enum_endD (Draws.tuple hd1 j a naj its.toArray) ee ⟨ti, tp⟩ fun h1 eb => ⟨rfl, I.turned (t' := s.toks) (fun b o hb q => eb b o hb q) f0 f1 f3 f4 f5⟩
  self := fun A i s Q E ⟨⟨_, ee⟩, _⟩ h => wpAny_pyIter_enum ee h
/-- enumerate of a list or a tuple -/
def iEnumA (K : PySem.W.Frag) (ta : TA) : TI := fun σ H R => ta σ H fun vs H1 => ∃ a xs, vs = [.ref a] ∧ ((SqL K H1 a xs ∧ R (Ite K a) H1) ∨ (SqT K H1 a xs ∧ R (IteT K a xs) H1))
theorem pi_enumA {X : Cx} {e : Expr} {ta : TA} {p pos tpos : Pos} {elts : List Expr} {kk : Nat} (gl : Gl X "enumerate") (nm : X.mg "enumerate" = none) (ha : PA X [e] ta) (hs : starEach [e] X.env = [(false, eval e X.env)] := by rfl) :
    PI X (.Tuple elts kk tpos) (.Call (.Name "enumerate" p) [e] [] pos) (iEnumA X.K ta) := by
  refine ⟨fun pins s σ H R I ht => Call_ (ld_blt I gl nm boot_enumerate (PyProof.Rows.callWith_type1 (thn (ha.run pos pins s σ H _ I ht) fun us t ⟨vs, H1, I1, rr, a, xs, ev, q⟩ => ?_) hs rfl))⟩
  subst ev
  rw [Vals.ref1 rr]
  have fp : ∀ {h' : Heap}, (∀ b x, t.heap.get? b = some x → h'.get? b = some x) → ∀ b ∈ [t.heap.objs.size + 1, t.heap.objs.size], FpOk X pins H1 b := fun _ b hb =>
    I1.fpOk ((by simpa using hb : b = t.heap.objs.size + 1 ∨ b = t.heap.objs.size).elim (fun z => by rw [z]; exact Nat.le_add_right _ _) fun z => by rw [z]; exact Nat.le_refl _) (I1.hok.fresh ((by simpa using hb : b = t.heap.objs.size + 1 ∨ b = t.heap.objs.size).elim (fun z => by rw [z]; exact Nat.le_add_right _ _) fun z => by rw [z]; exact Nat.le_refl _))
  rcases q with ⟨sq, q⟩ | ⟨sq, q⟩
  · obtain ⟨its, rv, lp, _⟩ := I1.list sq
    exact call_enumerate_list lp.isList fun h' ee ti _ kp => wpAny_pyIter_enum ee ⟨_, [t.heap.objs.size + 1, t.heap.objs.size], _, _, H1, rfl, I1.kept (t' := t.toks) kp, turn_enum a _ _, ⟨⟨.none, ee⟩, ti, Nat.succ_ne_self _⟩, fp kp, q⟩
  · obtain ⟨its, rv, tp, _⟩ := I1.tuple sq
    have la : a < t.heap.objs.size := by obtain ⟨_, g, _⟩ := tp; exact Heap.lt_size g
    exact call_enum1 (begins_tuple a its.toArray) tp fun h' ee ti kp => wpAny_pyIter_enum ee ⟨_, [t.heap.objs.size + 1, t.heap.objs.size], _, _, H1, rfl, I1.kept (t' := t.toks) kp, turn_enumT a _ _ xs, ⟨⟨.none, ee⟩, ⟨_, ti, rfl, rfl⟩, Nat.zero_le _, Nat.succ_ne_self _, Nat.ne_of_gt (Nat.lt_succ_of_lt la), Nat.ne_of_lt la⟩, fp kp, q⟩
def mEnumA (f : Sls → Res D) : Sls → Res (List D) := fun ρ => f ρ >>= fun d => match d with
  | .lst ds => ok (numD ds)
  | .kl ds => ok (numD ds)
  | .tup ds => ok (numD ds)
  | _ => bad
theorem wk_enumT {K : PySem.W.Frag} {H : Hp} {O : Addr → Prop} {a : Addr} {vs : List V} {ds : List D} (d : Dom H O) (h : SqT K H a vs) (r : Reps K H O vs ds) : Wk K (IteT K a vs) (numD ds) H O := by
  intro H2 O2 l i
  have h2 := l.sqt d h
  have r2 := r.later d l
  refine ⟨fun x e => ?_, fun hi => ⟨h2, by rw [r.length]; simpa [numD] using hi⟩⟩
  unfold numD at e
  rw [List.getElem?_map] at e
  obtain ⟨i1, q1, q2⟩ := Option.map_eq_some_iff.mp e
  have lt := (List.getElem?_eq_some_iff.mp q1).1
  rw [List.length_range] at lt
  rw [List.getElem?_range lt] at q1
  cases q1
  subst q2
  obtain ⟨v, hv, rv⟩ := r2.get (i := i) (List.getElem?_eq_getElem lt)
  refine ⟨⟨h2, v, hv⟩, fun u H3 ⟨T, z, e1, n, e3, k⟩ => ?_⟩
  obtain rfl : z = v := Option.some.inj (k.symm.trans hv)
  subst e1 e3
  refine ⟨same_new n, ?_⟩
  rw [List.getD_eq_getElem?_getD, List.getElem?_eq_getElem lt]
  exact .tup (.inl (.inl upd_same)) (by show 2 ≤ sizeLine; decide) (.cons (.int _) (.cons (rv.same (same_new n)) .nil))
theorem ei_enumA {X : Cx} {E : EX} {e : Expr} {f : Sls → Res D} {p pos tpos : Pos} {elts : List Expr} {kk : Nat} (hm : X.mg "enumerate" = none) (he : EF X E e f) (hg : Gl X "enumerate" := by rfl) (hs : starEach [e] X.env = [(false, eval e X.env)] := by rfl) :
    EI X E (.Tuple elts kk tpos) (.Call (.Name "enumerate" p) [e] [] pos) (mEnumA f) :=
  pi_imp (pi_enumA hg hm (pa_cons he pa_nil hs) hs) fun σ H R ⟨ρ, O, F, s, p⟩ => by
    refine ⟨ρ, O, F, s, p.bind.imp fun d p1 v H1 e1 r1 => ?_⟩
    have dm := (s.same e1).dom
    have len : ∀ ds : List D, (numD ds).length = ds.length := fun ds => by simp [numD]
    cases r1 with
    | lst h n z r => exact ⟨_, _, rfl, .inl ⟨.inl h, p1 _ H1 e1 (by rw [len, ← r.length]; exact z) (wk_enum dm (.inl ⟨h, n⟩) r)⟩⟩
    | kl h z r => exact ⟨_, _, rfl, .inl ⟨h.sql, p1 _ H1 e1 (by rw [len, ← r.length]; exact z) (wk_enum dm h r)⟩⟩
    | tup h z r => exact ⟨_, _, rfl, .inr ⟨h, p1 _ H1 e1 (by rw [len, ← r.length]; exact z) (wk_enumT dm h r)⟩⟩
    | _ => exact p1.elim
end PP

namespace PP
open PySem PySem.Spec PyProof.Rows L2
open Res (ok exc bad)
/-! ### lists of own lists -/
/-- a slot's value, owned at all depths, is not changed any more -/
def frzD (i : Nat) (ρ : Sls) : Sls := match ρ[i]? with
  | some (.od d) => ρ.set i (.fz d)
  | _ => ρ
def sFrzD (i : Nat) (s : Sls → Fl) : Sls → Fl := fun ρ => s (frzD i ρ)
def sSetD (i : Nat) (f : Sls → Res D) : Sls → Fl := fun ρ => thenF (f ρ) ρ fun d => .nx (ρ.set i (.od d))
def appTo (ρ : Sls) (i : Nat) (ds : List D) (n : Nat) (es : List D) (d : D) : Fl := if Fzy d = true ∧ es.length < sizeLine then .nx (ρ.set i (.od (.lst (ds.set n (.lst (es ++ [d])))))) else .bad
def sAppD (i : Nat) (g f : Sls → Res D) : Sls → Fl := fun ρ => match ρ[i]? with
  | some (.od (.lst ds)) => thenF (g ρ) ρ fun k => match k with
    | .int n => if 0 ≤ n then match ds[n.toNat]? with
        | some (.lst es) => thenF (f ρ) ρ fun d => appTo ρ i ds n.toNat es d
        | _ => .bad
      else .bad
    | _ => .bad
  | _ => .bad
def sPopT (i : Nat) (t : TgF) : Sls → Fl := fun ρ => match popSl i ρ with
  | some (ρ1, d) => thenF (t d ρ1).quiet ρ1 fun ρ' => .nx ρ'
  | none => .bad
def dLenS : List D → Option D
  | [.lst xs] => (prs xs).bind fun ps => if ps.length < 64 then some (.int (nodups ps).length) else none
  | _ => none

section
variable {K : PySem.W.Frag} {H H' : Hp} {O O' : Addr → Prop}
/-- a slot owned at all depths, taken out -/
theorem RSt.openD : ∀ {σ ρ F} {i : Nat} {d : D}, RSt K H O σ ρ F → ρ[i]? = some (.od d) → ∃ v G F0, σ[i]? = some (some v) ∧ RepD K H O v d G ∧ (∀ b ∈ G, b ∈ F) ∧ (∀ b ∈ G, b ∉ F0) ∧ (∀ b ∈ F0, b ∈ F) ∧ RSt K H O σ (ρ.set i .no) F0
  | _, _, _, _, _, .nil, e => by simp at e
  | _, _, _, 0, _, .no t, e => by simp at e
  | _, _, _, 0, _, .fz _ t, e => by simp at e
  | _, _, _, 0, _, .ow _ _ t, e => by simp at e
  | _, _, _, 0, _, .me _ _ t, e => by simp at e
  | _, _, _, 0, _, .od r n t, e => by
    simp at e
    subst e
    exact ⟨_, _, _, rfl, r, fun b h => List.mem_append_left _ h, n, fun b h => List.mem_append_right _ h, .no t⟩
  | _, _, _, i + 1, _, .no t, e => by
    obtain ⟨v, G, F0, h1, h2, h3, h4, h5, h6⟩ := t.openD (i := i) (by simpa using e)
    exact ⟨v, G, F0, by simpa using h1, h2, h3, h4, h5, .no h6⟩
  | _, _, _, i + 1, _, .fz r t, e => by
    obtain ⟨v, G, F0, h1, h2, h3, h4, h5, h6⟩ := t.openD (i := i) (by simpa using e)
    exact ⟨v, G, F0, by simpa using h1, h2, h3, h4, h5, .fz r h6⟩
  | _, _, _, i + 1, _, .ow (a := a) r n t, e => by
    obtain ⟨v, G, F0, h1, h2, h3, h4, h5, h6⟩ := t.openD (i := i) (by simpa using e)
    refine ⟨v, G, a :: F0, by simpa using h1, h2, fun b h => List.mem_cons_of_mem _ (h3 b h), fun b h z => ?_, fun b h => ?_, .ow r (fun z => n (h5 _ z)) h6⟩
    · exact (List.mem_cons.mp z).elim (fun z => n (z ▸ h3 b h)) (h4 b h)
    · exact (List.mem_cons.mp h).elim (fun z => by rw [z]; simp) fun z => List.mem_cons_of_mem _ (h5 b z)
  | _, _, _, i + 1, _, .me (a := a) r n t, e => by
    obtain ⟨v, G, F0, h1, h2, h3, h4, h5, h6⟩ := t.openD (i := i) (by simpa using e)
    refine ⟨v, G, a :: F0, by simpa using h1, h2, fun b h => List.mem_cons_of_mem _ (h3 b h), fun b h z => ?_, fun b h => ?_, .me r (fun z => n (h5 _ z)) h6⟩
    · exact (List.mem_cons.mp z).elim (fun z => n (z ▸ h3 b h)) (h4 b h)
    · exact (List.mem_cons.mp h).elim (fun z => by rw [z]; simp) fun z => List.mem_cons_of_mem _ (h5 b z)
  | _, _, _, i + 1, _, .od (F1 := F1) r n t, e => by
    obtain ⟨v, G, F0, h1, h2, h3, h4, h5, h6⟩ := t.openD (i := i) (by simpa using e)
    refine ⟨v, G, F1 ++ F0, by simpa using h1, h2, fun b h => List.mem_append_right _ (h3 b h), fun b h z => ?_, fun b h => ?_, .od r (fun b z1 z2 => n b z1 (h5 _ z2)) h6⟩
    · exact (List.mem_append.mp z).elim (fun z => n b z (h3 b h)) (h4 b h)
    · exact (List.mem_append.mp h).elim (fun z => List.mem_append_left _ z) fun z => List.mem_append_right _ (h5 b z)
theorem set_id {α : Type} {l : List α} {i : Nat} {x : α} (h : l[i]? = some x) : l.set i x = l := by
  apply List.ext_getElem?
  intro j
  by_cases e : i = j
  · subst e
    rw [List.getElem?_set_self (List.getElem?_eq_some_iff.mp h).1, h]
  · rw [List.getElem?_set_ne e]
theorem RSt.freezeD {σ : L2.St} {ρ : Sls} {F : List Addr} {i : Nat} {d : D} (t : RSt K H O σ ρ F) (e : ρ[i]? = some (.od d)) : ∃ O' F', (∀ b, O' b → O b) ∧ RSt K H O' σ (ρ.set i (.fz d)) F' ∧ (∀ b ∈ F', b ∈ F) ∧ (∀ b, O b → O' b ∨ b ∈ F) := by
  obtain ⟨v, G, F0, e1, rd, g1, g2, g3, t0⟩ := t.openD e
  have less : ∀ b, (O b ∧ b ∉ G) → O b := fun b h => h.1
  have away : ∀ {σ ρ F}, (∀ b ∈ G, b ∉ F) → RSt K H O σ ρ F → RSt K H (fun b => O b ∧ b ∉ G) σ ρ F := by
    intro σ ρ F n t
    induction t with
    | nil => exact .nil
    | no _ ih => exact .no (ih n)
    | fz r _ ih => exact .fz (r.less less) (ih n)
    | ow r m _ ih =>
      obtain ⟨q, o, r⟩ := r
      exact .ow ⟨q, ⟨o, fun z => n _ z (by simp)⟩, r.less less⟩ m (ih fun b z h => n b z (List.mem_cons_of_mem _ h))
    | me r m _ ih =>
      obtain ⟨q, o, r⟩ := r
      exact .me ⟨q, ⟨o, fun z => n _ z (by simp)⟩, r.less less⟩ m (ih fun b z h => n b z (List.mem_cons_of_mem _ h))
    | od r m _ ih =>
      exact .od (r.less less fun b hb => ⟨(r.owned b hb).1, fun z => n b z (List.mem_append_left _ hb)⟩) m (ih fun b z h => n b z (List.mem_append_right _ h))
  have rf : Rep K H (fun b => O b ∧ b ∉ G) v d := rd.freeze less (fun b hb z => z.2 hb)
  obtain ⟨F', q1, q2⟩ := RSt.setF rf i (away g2 t0)
  rw [set_id e1, List.set_set] at q1
  refine ⟨_, F', less, q1, fun b hb => g3 b (q2 b hb), fun b hb => ?_⟩
  by_cases z : b ∈ G
  · exact .inr (g1 b z)
  · exact .inl ⟨hb, z⟩
theorem Sta.frzD {σ : L2.St} {ρ : Sls} {F : List Addr} (s : Sta K H O σ ρ F) (i : Nat) : ∃ O' F', Sta K H O' σ (PP.frzD i ρ) F' ∧ Tr H O F H O' F' := by
  unfold PP.frzD
  split
  · rename_i d e
    obtain ⟨O', F', h1, h2, h3, h4⟩ := s.st.freezeD e
    exact ⟨O', F', ⟨h2, fun b hb => s.dom b (h1 b hb)⟩, ⟨fun _ _ q _ => q, fun b hb => .inl (h3 b hb), h4, fun b hb => .inl (h1 b hb)⟩⟩
  · exact ⟨O, F, s, .refl⟩
end
section
variable {X : Cx} {E : EX} {e : Expr} {f : Sls → Res D} {st : Stmt} {s1 : Sls → Fl} {pos pos' : Pos}
theorem ss_frzD (i : Nat) (h : SS X E st s1) : SS X E st fun ρ => s1 (frzD i ρ) :=
  ps_imp h fun D σ H ⟨ρ, O, F, s, p⟩ => by
    obtain ⟨O', F', s', t⟩ := s.frzD i
    exact ⟨_, O', F', s', FP.later s t p⟩
/-- target = xs.pop() -/
theorem ss_popT (i : Nat) {tg : Expr} {g : L2.TG} {t : TgF} {vs : List Nat} {y : Str} {p1 p2 p3 : Pos} (hg : PG X tg g) (hgt : PP.TG X.K g t vs)
    (hs : swapsWithSole [tg] (.Call (.Attribute (.Name y p1) "pop" p2) [] [] p3) pos.line X.env = pure false := by rfl) (hw : swappedStores [tg] (.Call (.Attribute (.Name y p1) "pop" p2) [] [] p3) X.env = pure none := by rfl)
    (h1 : (assignEach [tg] X.env).map (·.2) = [assign tg X.env] := by rfl)
    (hi : X.N[i]? = some y := by rfl) (hv : Vis X.env.scope y := by first | exact Or.inl rfl | exact Or.inr (Or.inl rfl) | exact Or.inr (Or.inr rfl)) (hd : (y == ("__debug__" : Str)) = false := by decide) (hcd : (y == ("__classdict__" : Str)) = false := by decide)
    (hbase : attributeBase (.Name y p1) "pop" X.env (eval (.Name y p1) X.env) = eval (.Name y p1) X.env := by rfl) (hline : (p2.endLine == p3.line) = true := by rfl) :
    SS X E (.Assign [tg] (.Call (.Attribute (.Name y p1) "pop" p2) [] [] p3) pos) (sPopT i t) :=
  ps_imp (ps_asg (pe_bm0 PySem.F.plainAttrs_list PySem.F.slot_list_pop PySem.F.type_list_pop mt_pop (pe_var hi hv hd hcd) hbase hline) hg hs hw h1) fun D σ H ⟨ρ, O, F, s, p⟩ => by
    unfold sPopT at p
    cases e : popSl i ρ with
    | none => rw [e] at p; exact p.elim
    | some z =>
      obtain ⟨ρ1, d⟩ := z
      rw [e] at p
      replace p : FP X.K E D H O F (thenF (t d ρ1).quiet ρ1 fun ρ' => .nx ρ') := p
      refine pop_reads s e fun v H' s1 t1 r1 _ => hgt.run H' O v d σ ρ1 F _ s1 r1 ?_
      cases q : t d ρ1 with
      | ok ρ' => rw [q] at p; exact fun σ' F' s' sub => p σ' H' O F' s' (t1.trans s (.sub sub (Same.refl _)))
      | exc c => rw [q] at p; exact p.elim
      | bad => rw [q] at p; exact p.elim
end
/-! ### the own list of own lists -/
section
variable {K : PySem.W.Frag} {H H' : Hp} {O O' : Addr → Prop}
theorem RepDs.snoc {x : V} {d : D} (r : RepD K H O x d []) : ∀ {vs ds F}, RepDs K H O vs ds F → RepDs K H O (vs ++ [x]) (ds ++ [d]) F
  | _, _, _, .nil => .cons r .nil (by simp)
  | _, _, _, .cons q t n => .cons q (RepDs.snoc r t) n
theorem RepDs.len : ∀ {vs ds F}, RepDs K H O vs ds F → vs.length = ds.length
  | _, _, _, .nil => rfl
  | _, _, _, .cons q t n => congrArg (· + 1) t.len
theorem RepDs.app : ∀ {vs ds F} {n : Nat} {es : List D}, RepDs K H O vs ds F → ds[n]? = some (.lst es) → ∃ (b : Addr) (ws : List V), vs[n]? = some (.ref b) ∧ b ∈ F ∧ O b ∧ H b = some (.lst ws) ∧ ws.length = es.length ∧
    ∀ (x : V) (d : D), Fzy d = true → Rep K H O x d → es.length < sizeLine → RepDs K (upd H b (.lst (ws ++ [x]))) O vs (ds.set n (.lst (es ++ [d]))) F
  | _, _, _, _, _, .nil, e => by simp at e
  | _, _, _, 0, es, .cons r t n, e => by
    simp at e
    subst e
    cases r with
    | fz q _ => cases q
    | @lst a ws _ G h o z rs ni =>
      refine ⟨a, ws, rfl, by simp, o, h, rs.len, fun x d q rx hl => ?_⟩
      have nt := noTup_hlst h
      refine .cons (.lst upd_same o (by rw [List.length_append, rs.len]; exact hl) ((RepDs.updOut o nt ni rs).snoc (.fz q (rx.upd o nt))) ni) (RepDs.updOut o nt (n a (by simp)) t) n
  | _, _, _, k + 1, es, .cons r t n, e => by
    obtain ⟨b, ws, h1, h2, h3, h4, h5, h6⟩ := RepDs.app (n := k) t (by simpa using e)
    exact ⟨b, ws, by simpa using h1, List.mem_append_right _ h2, h3, h4, h5, fun x d q rx hl => .cons (RepD.updOut h3 (noTup_hlst h4) (fun z => n b z h2) r) (h6 x d q rx hl) n⟩
theorem RSt.updD {σ : L2.St} {ρ : Sls} {F : List Addr} {i n : Nat} {ds es : List D} (t : RSt K H O σ ρ F) (e : ρ[i]? = some (.od (.lst ds))) (en : ds[n]? = some (.lst es)) : ∃ (a b : Addr) (vs ws : List V), σ[i]? = some (some (.ref a)) ∧ H a = some (.lst vs) ∧ vs.length = ds.length ∧ vs[n]? = some (.ref b) ∧ b ∈ F ∧ O b ∧ H b = some (.lst ws) ∧ ws.length = es.length ∧
    ∀ (H1 : Hp) (x : V) (d : D), Same H H1 → Fzy d = true → Rep K H1 O x d → es.length < sizeLine → ∃ F', RSt K (upd H1 b (.lst (ws ++ [x]))) O σ (ρ.set i (.od (.lst (ds.set n (.lst (es ++ [d])))))) F' ∧ ∀ c ∈ F', c ∈ F := by
  obtain ⟨v, G, F0, e1, rd, g1, g2, g3, t0⟩ := t.openD e
  cases rd with
  | fz q _ => cases q
  | @lst a vs _ G h o z rs ni =>
    obtain ⟨b, ws, h1, h2, h3, h4, h5, _⟩ := rs.app en
    refine ⟨a, b, vs, ws, e1, h, rs.len, h1, g1 b (List.mem_cons_of_mem _ h2), h3, h4, h5, fun H1 x d eH q rx hl => ?_⟩
    obtain ⟨b', ws', k1, _, _, k4, _, k6⟩ := (RepDs.same eH rs).app en
    rw [h1] at k1
    obtain rfl : b = b' := by injection k1 with k1; injection k1
    rw [eH _ _ h4] at k4
    obtain rfl : ws = ws' := by injection k4 with k4; injection k4
    have nt := noTup_hlst (eH _ _ h4)
    have hba : a ≠ b := fun z => ni (z ▸ h2)
    have r2 : RepD K (upd H1 b (.lst (ws ++ [x]))) O (.ref a) (.lst (ds.set n (.lst (es ++ [d])))) (a :: G) := .lst ((upd_ne hba).trans (eH _ _ h)) o z (k6 x d q rx hl) ni
    have t1 := RSt.updOut (o := .lst (ws ++ [x])) h3 nt (g2 b (List.mem_cons_of_mem _ h2)) (t0.same eH)
    obtain ⟨F', q1, q2⟩ := RSt.setD r2 i g2 t1
    rw [set_id e1, List.set_set] at q1
    exact ⟨F', q1, fun c hc => (q2 c hc).elim (g1 c) (g3 c)⟩
end
theorem atI_toNat {vs : List V} {n : Int} {v : V} (h0 : 0 ≤ n) (h : vs[n.toNat]? = some v) : atI vs n = some v := by
  have hl := (List.getElem?_eq_some_iff.mp h).1
  unfold atI ixN
  rw [if_pos h0, if_pos (show n < (vs.length : Int) by omega)]
  exact h
theorem appD_reads {E : EX} {i : Nat} {f g : Sls → Res D} {D' : Ends} {σ : L2.St} {H : Hp} {Kf : PySem.W.Frag} (hq : tSS Kf E (sAppD i g f) D' σ H) :
    tDrop (tBM Kf "list" rAppend (tOp (rIxL Kf) (tVar i) (tEF Kf E g)) (tCons (tEF Kf E f) tNil)) D' σ H := by
  obtain ⟨ρ, O, F, s, p⟩ := hq
  unfold sAppD at p
  split at p
  · rename_i ds e
    obtain ⟨v, G, F0, e1, rd, _⟩ := s.st.openD e
    refine ⟨v, e1, ρ, O, F, s, (FP.po s p).imp fun k p1 vk H1 eH r1 => ?_⟩
    split at p1
    · rename_i n
      cases r1
      by_cases h0 : 0 ≤ n
      · rw [if_pos h0] at p1
        split at p1
        · rename_i es en
          have s1 := s.same eH
          obtain ⟨a, b, vs, ws, q1, q2, q3, q4, q5, q6, q7, q8, up⟩ := s1.st.updD e en
          rw [e1] at q1
          obtain rfl : v = .ref a := by injection q1 with q1; injection q1
          refine ⟨a, vs, n, .ref b, rfl, rfl, .inl (.inl q2), atI_toNat h0 q4, .inl ⟨rfl, ws, .inl (.inl q7)⟩, ρ, O, F, s1, (FP.po s1 (FP.later s (.same eH) p1)).imp fun d p2 x H2 eH2 rx => ?_⟩
          unfold appTo at p2
          by_cases hz : Fzy d = true ∧ es.length < sizeLine
          · rw [if_pos hz] at p2
            have q7' := eH2 _ _ q7
            obtain ⟨F', st2, sub⟩ := up H2 x d eH2 hz.1 rx hz.2
            refine ⟨b, ws, x, rfl, rfl, q7', by rw [q8]; exact hz.2, p2 _ _ O F' ⟨st2, fun c hc => ?_⟩ ⟨fun c o q m => ?_, fun c hc => .inl (sub c hc), fun c hc => .inl hc, fun c hc => .inl hc⟩⟩
            · by_cases hcb : c = b
              · subst hcb; exact ⟨by rw [upd_same]; exact fun z => (nomatch z), noTup_lst upd_same⟩
              · obtain ⟨d1, d2⟩ := (s1.same eH2).dom c hc
                exact ⟨by rw [upd_ne hcb]; exact d1, fun xs q => d2 xs (by rcases q with q | ⟨o, q⟩ <;> rw [upd_ne hcb] at q; exact .inl q; exact .inr ⟨o, q⟩)⟩
            · rw [upd_ne (fun z => m (by rw [z]; exact q5))]
              exact eH2 _ _ q
          · rw [if_neg hz] at p2
            exact p2.elim
        · exact p1.elim
      · rw [if_neg h0] at p1
        exact p1.elim
    · exact p1.elim
  · exact p.elim
section
variable {X : Cx} {E : EX} {e k : Expr} {f g : Sls → Res D} {pos pos' : Pos}
/-- xs[k].append(e), xs a list of own lists -/
theorem ss_appD (i : Nat) {x : Str} {px kpos apos cpos spos : Pos} (hk : EF X E k g) (he : EF X E e f) (hN : X.N[i]? = some x := by rfl) (hv : Vis X.env.scope x := by first | exact Or.inl rfl | exact Or.inr (Or.inl rfl) | exact Or.inr (Or.inr rfl)) (hd : (x == ("__debug__" : Str)) = false := by decide)
    (hcd : (x == ("__classdict__" : Str)) = false := by decide) (hix : PlainIx k := by intro _ _; rfl)
    (hbase : attributeBase (.Subscript (.Name x px) k kpos) "append" X.env (eval (.Subscript (.Name x px) k kpos) X.env) = eval (.Subscript (.Name x px) k kpos) X.env := by rfl)
    (hfew : ((backTo cpos (starEach [e] X.env)).all (fun x => !x.1) && (backToKw cpos (keywordEach [] X.env)).all (fun x => x.1.isSome)
      && decide (([e] : List Expr).length + ([] : List Keyword).length + (if ([] : List Keyword).isEmpty then 0 else 1) < 30)) = true := by rfl)
    (hline : (apos.endLine == cpos.line) = true := by rfl) (hs : starEach [e] X.env = (false, eval e X.env) :: starEach [] X.env := by rfl) (hplain : (backTo cpos (starEach [] X.env)).any (·.1) = false := by rfl)
    (hsw : swapsWith (.Call (.Attribute (.Subscript (.Name x px) k kpos) "append" apos) [e] [] cpos) none spos.line X.env = pure false := by rfl) :
    SS X E (.Expr (.Call (.Attribute (.Subscript (.Name x px) k kpos) "append" apos) [e] [] cpos) spos) (sAppD i g f) :=
  ps_imp (ps_expr (pe_bm PySem.F.plainAttrs_list PySem.F.slot_list_append PySem.F.type_list_append mt_append (pe_ix ix_list (pe_var hN hv hd hcd) hk hix) (pa_cons he pa_nil hs) hbase hfew hline hs hplain) hsw) fun D σ H hq => appD_reads hq
end
/-! ### xs = [[] for ..] -/
theorem RSt.moreL {K : PySem.W.Frag} {H : Hp} {σ : L2.St} {ρ : Sls} {F : List Addr} : ∀ {O : Addr → Prop} (G : List Addr), (∀ b ∈ G, H b = none) → RSt K H O σ ρ F → RSt K H (fun b => O b ∨ b ∈ G) σ ρ F
  | O, [], _, t => by
    have e : (fun b => O b ∨ b ∈ ([] : List Addr)) = O := funext fun b => by simp
    rw [e]; exact t
  | O, c :: G, n, t => by
    have e : (fun b => O b ∨ b ∈ c :: G) = fun b => Ad O c b ∨ b ∈ G := funext fun b => by simp [Ad, or_assoc]
    rw [e]
    exact RSt.moreL G (fun b h => n b (List.mem_cons_of_mem _ h)) (t.more (n c (by simp)))
theorem repDs_empty {K : PySem.W.Frag} {H : Hp} {O : Addr → Prop} : ∀ {G : List Addr}, G.Nodup → (∀ b ∈ G, O b ∧ H b = some (.lst [])) → RepDs K H O (G.map V.ref) (G.map fun _ => D.lst []) G
  | [], _, _ => .nil
  | c :: G, n, h => by
    have n1 := List.nodup_cons.mp n
    have hc := h c (by simp)
    refine .cons (F1 := [c]) (.lst hc.2 hc.1 (Nat.zero_le _) .nil (by simp)) (repDs_empty n1.2 fun b hb => h b (List.mem_cons_of_mem _ hb)) fun b hb => ?_
    rw [List.mem_singleton.mp hb]; exact n1.1
section
variable {X : Cx} {E : EX}
theorem lcD_go {J : It} {items ys : List D} {g : L2.TG} {t : TgF} {vs : List Nat} {σ : L2.St} {H1 : Hp} {O : Addr → Prop} {ρ : Sls} {F : List Addr} {D0 : Addr} {Qd : Hp → Prop} (hD : H1 D0 = none)
    (s : Sta X.K H1 O σ ρ F) (hw : Wk X.K J items H1 O) (hz : items.length ≤ sizeLine) (hg : PP.TG X.K g t vs) (hy : compL (lcStep vs t mYes (mLst []) ρ) items = ok ys)
    (hd : ∀ (H2 : Hp) (G : List Addr), Same H1 H2 → H2 D0 = some (.lst (G.map V.ref)) → ys = G.map (fun _ => D.lst []) → G.Nodup → (∀ b ∈ G, b ≠ D0 ∧ H1 b = none ∧ H2 b = some (.lst [])) → G.length ≤ sizeLine → Qd H2) :
    ∃ W : Nat → Nat → Hp → Prop, (∃ m, W 0 m (upd H1 D0 (.lst []))) ∧ ∀ i m H, W i m H →
      (J.stop i H ∧ Qd H) ∨ (J.go i H ∧ ∃ Nx : Hp → Prop, (∀ H', Nx H' → ∃ m', m' < m ∧ W (i + 1) m' H') ∧ ∀ x H', J.yld i H x H' → g x (L2.wipe σ vs) H' fun σ2 H2 => L2.wipe σ2 vs = L2.wipe σ vs ∧ tET X.K E0' mYes σ2 H2 fun b H3 =>
        if b = true then tLst tNil σ2 H3 fun y H4 => ∃ acc, H4 D0 = some (.lst acc) ∧ acc.length < sizeLine ∧ Nx (upd H4 D0 (.lst (acc ++ [y]))) else Nx H3) := by
  let W : Nat → Nat → Hp → Prop := fun i m H2 => m + i = items.length ∧ Same H1 H2 ∧ ∃ (G : List Addr) (rest : List D), H2 D0 = some (.lst (G.map V.ref)) ∧ G.length ≤ i ∧ G.Nodup ∧ (∀ b ∈ G, b ≠ D0 ∧ H1 b = none ∧ H2 b = some (.lst [])) ∧ compL (lcStep vs t mYes (mLst []) ρ) (items.drop i) = ok rest ∧ ys = G.map (fun _ => D.lst []) ++ rest
  have nOD : ¬ O D0 := fun h => (s.dom D0 h).1 hD
  refine ⟨W, ⟨items.length, by omega, same_new hD, [], ys, upd_same, Nat.le_refl _, List.nodup_nil, fun b h => by simp at h, by simpa using hy, rfl⟩, ?_⟩
  rintro i m H2 ⟨hm, e2, G, rest, hacc, hlen, nd, hG, hrest, hys⟩
  have lt : Later H1 O H2 (Ad O D0) := fun a o h n => ⟨e2 a o h, fun z => z.elim n fun z => by subst z; rw [hD] at h; cases h⟩
  obtain ⟨w1, w2⟩ := hw H2 (Ad O D0) lt i
  by_cases hi : i < items.length
  · obtain ⟨go, yl⟩ := w1 items[i] (List.getElem?_eq_getElem hi)
    rw [List.drop_eq_getElem_cons hi] at hrest
    obtain ⟨r, zs, hstep, hzs, hrest'⟩ := compL_cons hrest
    refine .inr ⟨go, W (i + 1) (m - 1), fun H' w => ⟨m - 1, by omega, w⟩, fun x H3 hyl => ?_⟩
    obtain ⟨e3, rx⟩ := yl x H3 hyl
    have e13 := e2.trans e3
    have hacc3 := e3 _ _ hacc
    have s3 : Sta X.K H3 (Ad O D0) σ ρ F := ⟨(s.st.more hD).same e13, fun a h => by
      rcases h with h | h
      · exact (s.dom.same e13) a h
      · subst h; exact ⟨by rw [hacc3]; exact fun z => (nomatch z), noTup_lst hacc3⟩⟩
    obtain ⟨Fw, sw⟩ := s3.wipe vs
    unfold lcStep at hstep
    obtain ⟨ρ1, ht, hstep⟩ := Res.bind_ok hstep
    refine hg.mono _ _ _ _ _ (fun σ4 H4 q => ⟨wipe_of q.1 q.2.1, q.2.2⟩) (hg.own _ _ _ _ ?_)
    refine hg.run H3 (Ad O D0) x items[i] _ _ Fw _ sw rx ?_
    rw [ht]
    intro σ4 F4 s4 _
    refine ⟨ρ1, Ad O D0, F4, s4, fun H5 e5 => ?_⟩
    have e15 := e13.trans e5
    have hacc5 := e5 _ _ hacc3
    refine iteT ⟨Nat.zero_le _, fun q hq => ?_⟩
    have qD : q ≠ D0 := fun z => by rw [z, hacc5] at hq; cases hq
    have hr : r = some (.lst []) := by
      have : (ok (some (D.lst [])) : Res (Option D)) = ok r := hstep
      cases this
      rfl
    have q1 : H1 q = none := e15.free hq
    have qG : q ∉ G := fun z => by
      have z1 := e5 _ _ (e3 _ _ (hG q z).2.2)
      rw [z1] at hq; cases hq
    have keep : ∀ b, b ≠ D0 → b ≠ q → upd (upd H5 q (.lst [])) D0 (.lst (G.map V.ref ++ [V.ref q])) b = H5 b := fun b h1 h2 => by rw [upd_ne h1, upd_ne h2]
    refine ⟨G.map V.ref, (upd_ne qD.symm).trans hacc5, by rw [List.length_map]; omega, by omega, fun a o h => ?_, G ++ [q], zs, by rw [upd_same]; simp, by simp; omega, ?_, fun b hb => ?_, hzs, by rw [hys, hrest', hr]; simp⟩
    · rw [keep a (fun z => by subst z; rw [hD] at h; cases h) (fun z => by subst z; rw [q1] at h; cases h)]
      exact e15 _ _ h
    · rw [List.nodup_append]
      exact ⟨nd, by simp, fun a ha b hb => by rw [List.mem_singleton.mp hb]; exact fun z => qG (z ▸ ha)⟩
    · rcases List.mem_append.mp hb with hb | hb
      · obtain ⟨h1, h2, h3⟩ := hG b hb
        exact ⟨h1, h2, by rw [keep b h1 (fun z => qG (z ▸ hb))]; exact e5 _ _ (e3 _ _ h3)⟩
      · rw [List.mem_singleton.mp hb]
        exact ⟨qD, q1, by rw [upd_ne qD, upd_same]⟩
  · rw [List.drop_eq_nil_of_le (by omega)] at hrest
    cases hrest
    exact .inl ⟨w2 (by omega), hd H2 G e2 hacc (by rw [hys]; simp) nd hG (by omega)⟩
theorem lcD_reads {own : List (Str × Nat)} {i : Nat} {it : Sls → Res (List D)} {g : L2.TG} {t : TgF} {D' : Ends} {σ : L2.St} {H : Hp} (hgt : PP.TG X.K g t (own.map (·.2))) (hq : tSS X.K E (sSetD i (mLc it (own.map (·.2)) t mYes (mLst []))) D' σ H) :
    tLc (tEI X.K E it) g (tET X.K E0' mYes) (tLst tNil) (own.map (·.2)) σ H fun x H1 => gName i x σ H1 D'.nx := by
  obtain ⟨ρ, O, F, s, p⟩ := hq
  refine ⟨ρ, O, F, s, (FP.po s p).bind.imp fun xs p1 => ?_⟩
  replace p1 : Po X.K E σ H (compL (lcStep (own.map (·.2)) t mYes (mLst []) ρ) xs >>= fun ys => ok (.lst ys)) fun d => FP X.K E D' H O F (.nx (ρ.set i (.od d))) := p1
  cases q : compL (lcStep (own.map (·.2)) t mYes (mLst []) ρ) xs with
  | exc c => exact (compL_exc q).elim
  | bad => rw [q] at p1; exact p1.elim
  | ok ys =>
    rw [q] at p1
    intro J H1 e1 z w D0 hD
    refine lcD_go hD (s.same e1) w z hgt q fun H2 G e2 hD0 hys nd hG hl => ?_
    have e12 := e1.trans e2
    have nn : ∀ b ∈ D0 :: G, H b = none ∧ H1 b = none ∧ H2 b ≠ none ∧ NoTup H2 b := fun b hb => by
      rcases List.mem_cons.mp hb with z | z
      · subst z; exact ⟨e1.free hD, hD, by rw [hD0]; exact fun z => (nomatch z), noTup_lst hD0⟩
      · obtain ⟨_, h2, h3⟩ := hG b z
        exact ⟨e1.free h2, h2, by rw [h3]; exact fun z => (nomatch z), noTup_lst h3⟩
    have st2 := (RSt.moreL (D0 :: G) (fun b hb => (nn b hb).1) s.st).same e12
    have r2 : RepD X.K H2 (fun b => O b ∨ b ∈ D0 :: G) (.ref D0) (.lst ys) (D0 :: G) := by
      rw [hys]
      exact .lst hD0 (.inr (by simp)) (by rw [List.length_map]; exact hl) (repDs_empty nd fun b hb => ⟨.inr (List.mem_cons_of_mem _ hb), (hG b hb).2.2⟩) fun h => (hG D0 h).1 rfl
    obtain ⟨F', k1, k2⟩ := RSt.setD r2 i (fun b hb h => (s.st.owned b h).2 (nn b hb).1) st2
    refine p1 _ H2 _ F' ⟨k1, fun b hb => ?_⟩ ⟨fun b o q _ => e12 b o q, fun b hb => (k2 b hb).elim (fun z => .inr (nn b z).1) .inl, fun b hb => .inl (.inl hb), fun b hb => hb.imp id fun z => (nn b z).1⟩
    rcases hb with hb | hb
    · exact (s.dom.same e12) b hb
    · exact ⟨(nn b hb).2.2.1, (nn b hb).2.2.2⟩
theorem ss_setLcD (i : Nat) {y : Str} {py lpos : Pos} {tg iter : Expr} {scope : Scope} {own : List (Str × Nat)} {pos spos : Pos} {it : Sls → Res (List D)} {g : L2.TG} {t : TgF} (hc : X.calm = true) (hN : X.N.Nodup) (hyl : X.env.scope.names.lookup y = some .local)
    (hsw : swapsWith (.ListComp (.List [] lpos) [⟨tg, iter, [], 0⟩] scope pos) (some (.Name y py)) spos.line X.env = pure true) (hi : EI X E tg iter it) (ok' : BlkOk X.N X.env.scope scope own) (hgt : PP.TG X.K g t (own.map (·.2)))
    (hg : ∀ (s : Shared) (H : Hp) (C : Addr) (cl : List (Str × Addr)) (fp : List Addr), PG (X.blk s H scope (compEnvC scope cl C X.env) fp) tg g) (hy : X.N[i]? = some y := by rfl) (hs : ∀ x, foldedSetIterable iter X.env x = pure x := by intro _; rfl) :
    SS X E (.Assign [.Name y py] (.ListComp (.List [] lpos) [⟨tg, iter, [], 0⟩] scope pos) spos) (sSetD i (mLc it (own.map (·.2)) t mYes (mLst []))) :=
  ps_imp (ps_setLc (tt := tET X.K E0' mYes) (te := tLst tNil) hc hN hy hyl hsw hi ok' hg (fun _ _ _ _ _ => ets_nil) (fun _ _ _ _ _ => pe_lst pa_nil) hs) fun D σ H hq => lcD_reads hgt hq
end
/-! ### len(set([..])), pairs of numbers -/
open TS in
/-- what the set of a list of tuples counts -/
def tLenSS (K : PySem.W.Frag) (te : TE) : TE := fun σ H Q => te σ H fun x H1 => ∃ (l : Addr) (ks : List (Addr × List Int)), x = V.ref l ∧ SqL K H1 l (ks.map fun p => V.ref p.1) ∧ (∀ p ∈ ks, SqT K H1 p.1 (p.2.map V.int)) ∧ ks.length < 64 ∧
  ∀ L : List (Addr × List Int), (L.map (·.2)).Nodup → (∀ p ∈ L, p ∈ ks) → (∀ p ∈ ks, p.2 ∈ L.map (·.2)) → Q (.int L.length) H1
def mLenS (f : Sls → Res D) : Sls → Res D := fun ρ => f ρ >>= fun d => ofO (dLenS [d])
section
variable {X : Cx}
open TS in
theorem pe_lenSS {a : Expr} {te : TE} {p1 p2 p3 pos : Pos} (cm : X.calm = true) (gl : Gl X "len") (ml : X.mg "len" = none) (gs : Gl X "set") (ms : X.mg "set" = none) (hu : X.A.units + 64 < cLine) (ha : PE X a te)
    (na : starEach [a] X.env = (false, eval a X.env) :: starEach [] X.env := by rfl) : PE X (.Call (.Name "len" p1) [.Call (.Name "set" p2) [a] [] p3] [] pos) (tLenSS X.K te) := by
  refine ⟨fun pins s σ H Q I h => Call_ (ld_blt I gl ml PySem.boot_len (PyProof.Rows.callWith_builtin1 (PyProof.Rows.args_cons (Call_ (ld_blt I gs ms PyProof.Rows.boot_set (PyProof.Rows.callWith_type1 (PyProof.Rows.args_cons (thn (ha.run pins s σ H _ I h) fun v s1 ⟨x, H1, I1, r1, q1⟩ => PyProof.Rows.args_nil ?_) na) na rfl))) rfl) rfl rfl))⟩
  obtain ⟨l, ks, ex, hl, hk, hf, q⟩ := q1
  subst ex
  cases r1
  obtain ⟨its, rv, pl, _⟩ := I1.list hl
  refine call_set_tups (P := X.prog) (w := X.w) ks (I1.ok.hd cm) pl.isList (by simpa using refs_of_vals rv) (fun p hp => I1.isT (hk p hp)) hf (by omega) fun h' tk L es ep t R g k => PyProof.Rows.args_nil ?_
  have I2 : Inv X pins σ H1 { s1 with heap := h', toks := tk } := I1.kept k
  obtain ⟨o, ho, hex, hd⟩ := R.ob
  have z := R.size (s := { s1 with heap := h', toks := tk })
  have few := R.few
  exact call_len_set ho hex hd (R.fits (s := { s1 with heap := h', toks := tk })) (by rw [z]; omega) ⟨.int L.length, H1, I2.tok _, ⟨_, by rw [z]⟩, q L R.nd (fun p hp => List.mem_of_mem_take (g.sub p hp)) fun p hp => g.all p (by rw [List.take_length]; exact hp)⟩
theorem ef_lenS {E : EX} {a : Expr} {f : Sls → Res D} {p1 p2 p3 pos : Pos} (cm : X.calm = true) (hu : X.A.units + 65 < cLine) (ml : X.mg "len" = none) (ms : X.mg "set" = none) (ha : EF X E a f) (gl : Gl X "len" := by rfl) (gs : Gl X "set" := by rfl)
    (na : starEach [a] X.env = (false, eval a X.env) :: starEach [] X.env := by rfl) : EF X E (.Call (.Name "len" p1) [.Call (.Name "set" p2) [a] [] p3] [] pos) (mLenS f) :=
  pe_imp (pe_lenSS cm gl ml gs ms (by omega) ha na) fun σ H Q ⟨ρ, O, F, s, p⟩ => ⟨ρ, O, F, s, p.bind.imp fun d p1 v H1 e1 r1 => by
    unfold dLenS at p1
    cases r1 with
    | @lst a vs ds h n z r =>
      cases ep : prs ds with
      | none => simp only [ep] at p1; exact p1.elim
      | some ps =>
        simp only [ep, Option.bind_some] at p1
        by_cases hf : ps.length < 64
        · rw [if_pos hf] at p1
          have exs := prs_eq ep
          subst exs
          obtain ⟨ks, rfl, e2, e3⟩ := reps_ks r
          have lk : ks.length = ps.length := by
            have := congrArg List.length e2
            simpa using this
          refine ⟨a, ks, rfl, .inl h, e3, by omega, fun L nd sub cov => ?_⟩
          have e : L.length = (nodups ps).length := by
            have nd2 : ((nodups ps).map fun p => [p.1, p.2]).Nodup := by
              refine List.Pairwise.map _ (fun p q ne e => ne ?_) (nd_nodups ps)
              have e1 : p.1 = q.1 ∧ p.2 = q.2 := by simpa using e
              exact Prod.ext e1.1 e1.2
            have pm := (List.perm_ext_iff_of_nodup nd nd2).mpr fun q => by
              constructor
              · intro hq
                obtain ⟨x, hx, rfl⟩ := List.mem_map.mp hq
                have : x.2 ∈ ks.map (·.2) := List.mem_map_of_mem (sub x hx)
                rw [e2] at this
                obtain ⟨p, hp, ep⟩ := List.mem_map.mp this
                exact List.mem_map.mpr ⟨p, mem_nodups.mpr hp, ep⟩
              · intro hq
                obtain ⟨p, hp, rfl⟩ := List.mem_map.mp hq
                have : [p.1, p.2] ∈ ks.map (·.2) := by rw [e2]; exact List.mem_map.mpr ⟨p, mem_nodups.mp hp, rfl⟩
                obtain ⟨x, hx, ex⟩ := List.mem_map.mp this
                rw [← ex]; exact cov x hx
            simpa using pm.length_eq
          rw [e]
          exact p1 _ _ e1 (.int _)
        · rw [if_neg hf] at p1
          exact p1.elim
    | _ => exact p1.elim⟩
end
end PP

namespace PP
open PySem PySem.Spec PyProof.Rows L2 TS
open Res (ok exc bad)
/-! ### sorted(set(t)), few of the pairs apart -/
def FewD (ks : List (Addr × List Int)) : Prop := ∀ L : List (Addr × List Int), (L.map (·.2)).Nodup → (∀ p ∈ L, p ∈ ks) → L.length ≤ 62
theorem fewD_of {ks : List (Addr × List Int)} {ps : List PI2} (e : ks.map (·.2) = ps.map fun p => [p.1, p.2]) (l : (nodups ps).length ≤ 62) : FewD ks := fun L nd sub => by
  have h1 : (L.map (·.2)).length ≤ ((nodups ps).map fun p => [p.1, p.2]).length := List.Nodup.length_le_of_subset nd fun q hq => by
    obtain ⟨x, hx, rfl⟩ := List.mem_map.mp hq
    have : x.2 ∈ ks.map (·.2) := List.mem_map_of_mem (sub x hx)
    rw [e] at this
    obtain ⟨p, hp, ep⟩ := List.mem_map.mp this
    exact List.mem_map.mpr ⟨p, mem_nodups.mpr hp, ep⟩
  rw [List.length_map, List.length_map] at h1
  omega
section
variable {P : Program} {w : World} {A : Around} {E : Value → Shared → Prop} {s : Shared}
theorem set_update_dis {J : Addr} {fp wr : List Addr} {G : Array GenState → Array GenState → Prop} {n : Nat} {Pv : Nat → Value → Prop} {St : Nat → Shared → Prop} {R : Result → Shared → Prop} (Wk : WalksS P w A.in1 J fp wr G n Pv St) (D : Addr) (nD : D ∉ fp) (ks : List (Addr × List Int)) (en : n = ks.length) (few : FewD ks)
    (vals : ∀ i v, Pv i v → ∃ p, ks[i]? = some p ∧ v = .ref p.1) (h0 : Heap) (tups : ∀ p ∈ ks, IsT P w h0 p.2 p.1) (freeD : h0.get? D = none) (freeW : ∀ b ∈ wr, h0.get? b = none) (hu : A.in1.units < cLine) : ∀ (k i : Nat) (s : Shared), n - i = k → i ≤ n → St i s →
      (∀ b o, h0.get? b = some o → s.heap.get? b = some o) → (∃ L es ep t, SetTR P w s.heap D L es ep t ∧ Got ks i L) →
      (∀ s' L es ep t, Moved (D :: wr) G s s' → SetTR P w s'.heap D L es ep t → Got ks n L → (∀ b o, h0.get? b = some o → s'.heap.get? b = some o) → R (.ok (.ret .none)) s') → codeAny (model P w) A (.builtin "set.update.loop" ⟨[.ref D, .ref J], []⟩) R s := by
  have nDw : D ∉ wr := fun h => nD (Wk.sub _ h)
  have wider : ∀ b ∈ wr, b ∈ D :: wr := fun b hb => List.mem_cons_of_mem _ hb
  have kept : ∀ {s s' : Shared}, Moved wr G s s' → (∀ b o, h0.get? b = some o → s.heap.get? b = some o) → ∀ b o, h0.get? b = some o → s'.heap.get? b = some o := fun mv kp b o e =>
    mv.heap b o (fun hb => by rw [freeW b hb] at e; cases e) (kp b o e)
  intro k
  induction k with
  | zero =>
    intro i s ek li st0 kp ⟨L, es, ep, t, rL, g⟩ goal
    obtain rfl : i = n := by omega
    refine codeAny_builtin F.entry_set_update_loop ?_
    rw [Around.under_plainId F.plain_set_update_loop _]
    show wpAny _ A.in1 (pyNext (.ref J) >>= _) _ _ s
    refine wpAny_bind (Wk.done s _ _ st0 fun s2 mv => ?_)
    show wpAny _ A.in1 (ret Value.none) _ _ s2
    have kp2 := kept mv kp
    exact wpAny_pure (goal s2 L es ep t (mv.mono wider) (rL.keep (fun o e => mv.heap D o nDw e) fun p hp => isT_keep (tups p (List.mem_of_mem_take (g.sub p hp))) kp2) g kp2)
  | succ k ih =>
    intro i s ek li st0 kp ⟨L, es, ep, t, rL, g⟩ goal
    have lt : i < n := by omega
    refine codeAny_builtin F.entry_set_update_loop ?_
    rw [Around.under_plainId F.plain_set_update_loop _]
    show wpAny _ A.in1 (pyNext (.ref J) >>= _) _ _ s
    refine wpAny_bind (Wk.item i s _ _ lt st0 fun v s2 pv st1 mv => ?_)
    obtain ⟨p, hp, rfl⟩ := vals i v pv
    have kp2 := kept mv kp
    have inKs : ∀ p ∈ L, p ∈ ks := fun p hp => List.mem_of_mem_take (g.sub p hp)
    have rL2 : SetTR P w s2.heap D L es ep t := rL.keep (fun o e => mv.heap D o nDw e) fun q hq => isT_keep (tups q (inKs q hq)) kp2
    have tx : IsT P w s2.heap p.2 p.1 := isT_keep (tups p (List.mem_of_getElem? hp)) kp2
    show wpAny _ A.in1 (holding [Value.ref p.1] (setAdd D (.ref p.1)) >>= _) _ _ s2
    refine wpAny_bind (wpAny_holding ?_)
    unfold setAdd
    refine wpAny_holding (wpAny_bind (wpAny_pyHash_tuple hu tx ?_))
    have lfew := few L rL2.nd inKs
    refine add_at (s := { s2 with toks := s2.toks + (p.2.length + 1) }) rL2 tx hu (by omega) fun b h3 L3 es3 ep3 t3 sb rL3 old new => ?_
    have g3 : Got ks (i + 1) L3 := by
      by_cases c : p.2 ∈ L.map (·.2)
      · rw [old c]; exact g.same hp c
      · exact g.more hp (new c)
    have nb : ∀ {b : Addr}, b ∈ fp → b ≠ D := fun hb z => nD (z ▸ hb)
    have kp3 : ∀ b o, h0.get? b = some o → h3.get? b = some o := fun b o e => (sb.2 b (fun z => by rw [z, freeD] at e; cases e)).trans (kp2 b o e)
    refine wpAny_pure ⟨plainId_quiet F.plain_set_update_loop _, ih (i + 1) _ (by omega) lt (Wk.frame _ s2 _ _ st1 (Nat.le_add_right _ _) fun b hb o e => ?_) kp3 ⟨L3, es3, ep3, t3, rL3, g3⟩ fun s4 L4 es4 ep4 t4 mv4 rL4 g4 kp4 => ?_⟩
    · rw [sb.2 b (nb hb)]; exact e
    · refine goal s4 L4 es4 ep4 t4 (Moved.trans Wk.gtrans ((mv.mono wider).then_heap (Nat.le_add_right _ _) fun b o hb e => ?_) mv4) rL4 g4 kp4
      have hbD : b ≠ D := fun z => hb (by rw [z]; exact List.mem_cons_self)
      rw [sb.2 b hbD]; exact e
theorem set_from_tupleD {l : Addr} {items : Array Value} (ks : List (Addr × List Int)) {Q : Value → Shared → Prop} (hh : A.handled = none) (hl : s.heap.IsTuple l items) (hit : items.toList = ks.map fun p => Value.ref p.1)
    (hk : ∀ p ∈ ks, IsT P w s.heap p.2 p.1) (few : FewD ks) (hu : A.units + 3 < cLine) (h : ∀ s2, Made P w ks s s2 → Q (.ref s.heap.objs.size) s2) : wpAny (model P w) A (call (.type "set") [.ref l]) Q E s := by
  have len : items.size = ks.length := by rw [← Array.length_toList, hit, List.length_map]
  have ⟨c, tl, hmro⟩ := F.called_set.mro
  have hmade := F.called_set.made
  have hsub := F.called_set.sub
  have nt := F.called_set.notType
  have cc := F.called_set.canCreate
  have hct := F.typeCall_set_1 (.ref l)
  refine wpAny_call (codeAny_of_tree ?_)
  show wpAny _ _ (callAny (.type "set") _) _ _ _
  refine wpAny_pure ⟨Code.quiet_builtin _ (by decide +kernel), codeAny_builtin F.entry_type_call ?_⟩
  rw [Around.under_plain (weight_type_call_type "set" [.ref l] []) rfl]
  repeat (any_goals (first | assumption | wp_step))
  refine codeAny_mono (code_set_led1 (.ref l) (E := E) (Q₁ := fun obj s1 => obj = .ref s.heap.objs.size ∧ s1 = { s with heap := s.heap.push (oSet w) }) ⟨rfl, rfl⟩) fun r s1 hr => ?_
  match r, hr with
  | .error e, hr => exact hr
  | .ok (.ret obj), hr =>
    obtain ⟨rfl, rfl⟩ := hr
    have gS : (s.heap.push (oSet w)).get? s.heap.objs.size = some (oSet w) := Heap.get?_push_size _ rfl
    have tS : Shared.TypeIs { s with heap := s.heap.push (oSet w) } (.ref s.heap.objs.size) "set" := ⟨_, gS, rfl⟩
    have hli := F.called_set.init.lookup
    have hbi := F.called_set.init.bind (.ref s.heap.objs.size)
    repeat (any_goals (first | assumption | wp_step))
    refine codeAny_mono (codeAny_call_builtin (R := wants (fun r s2 => r = .none ∧ Made P w ks s s2) E) F.called_set.init.plain F.entry_set_init (check_set_init_1 tS ?_)) fun r2 s2 hr2 => ?_
    · obtain ⟨⟨ocls, odict, odata, oslots⟩, hol, hcl, nl, hdl⟩ := hl
      simp only at hcl hdl
      subst hcl hdl
      have hol' : (s.heap.push (oSet w)).get? l = some { cls := .type "tuple", dict := odict, data := .seq items nl, slots := oslots } := Heap.get?_push_of_some _ hol
      have hl1 : (s.heap.push (oSet w)).IsTuple l items := ⟨_, hol', rfl, nl, rfl⟩
      have hsls := F.sub_tuple_set
      have hslf := F.sub_tuple_frozenset
      have hne : (Value.type "tuple" == Value.type "dict") = false := by decide
      unfold Builtin.«set.__init__» noKeywords Builtin.Frozenset.updateFrom
      generalize hPI : pyIter = PI
      wp_walk
      subst hPI
      refine wpAny_pyIter_tuple hl1 (wpAny_bind (wpAny_runValue ?_))
      have lS : l < s.heap.objs.size := Heap.lt_size hol
      have pz : (s.heap.push (oSet w)).objs.size = s.heap.objs.size + 1 := Heap.size_push ..
      have nI : l ≠ (s.heap.push (oSet w)).objs.size := by rw [pz]; exact Nat.ne_of_lt (Nat.lt_succ_of_lt lS)
      have nS : s.heap.objs.size ∉ [(s.heap.push (oSet w)).objs.size, l] := by
        rw [pz]
        simp only [List.mem_cons, List.not_mem_nil, or_false, not_or]
        exact ⟨Nat.ne_of_lt (Nat.lt_succ_self _), Nat.ne_of_gt lS⟩
      have hval : ∀ (i : Nat) (v : Value), items[i]? = some v → ∃ p, ks[i]? = some p ∧ v = .ref p.1 := fun i v hv => by
        rw [← Array.getElem?_toList, hit, List.getElem?_map] at hv
        obtain ⟨p, e1, e2⟩ := Option.map_eq_some_iff.mp hv
        exact ⟨p, e1, e2.symm⟩
      have free : ∀ b, s.heap.objs.size ≤ b → s.heap.get? b = none := fun b hb => by
        cases q : s.heap.get? b with
        | none => rfl
        | some o => exact absurd (Heap.lt_size q) (Nat.not_lt_of_le hb)
      have hh3 : A.in1.in1.in1.handled = none := by simp [hh]
      refine set_update_dis ((Walks.tuple hh3 _ l nI items).toS) s.heap.objs.size nS ks len few hval s.heap hk (free _ (Nat.le_refl _)) (fun b hb => free b (by rw [List.mem_singleton.mp hb, pz]; exact Nat.le_succ _)) hu (items.size - 0) 0 _ (by omega) (Nat.zero_le _)
        ⟨⟨_, Heap.get?_push_size _ rfl, rfl, rfl⟩, (hl1.push _)⟩ (fun b o e => Heap.get?_push_of_some _ (Heap.get?_push_of_some _ e)) ⟨[], #[], 0, _, setTR_fresh (Heap.get?_push_of_some _ gS), Got.zero ks⟩ fun s' L es ep t hm hS' g' hkp => ?_
      obtain ⟨h', g2, d', tk', os'⟩ := s'
      have eg : g2 = s.gens := hm.gens
      have ed : d' = s.drawn := hm.drawn
      have eo : os' = s.os := hm.os
      subst eg ed eo
      rw [len] at g'
      show wpAny _ _ _ _ _ _
      refine wpAny_pure ?_
      show wpAny _ _ (ret Value.none) _ _ _
      exact wpAny_pure ⟨rfl, h', tk', L, es, ep, t, rfl, hS', g', hkp⟩
    · match r2, hr2 with
      | .error e, hr2 => exact hr2
      | .ok (.ret r), hr2 =>
        obtain ⟨rfl, m⟩ := hr2
        repeat (any_goals (first | assumption | wp_step))
        exact h _ m
end
section
variable {X : Cx}
/-- set(t) of a tuple, as rSetOfT of a list -/
def rSetTD (K : PySem.W.Frag) (P : Program) (w : World) : List V → Hp → VK → Prop := fun xs H Q => ∃ (l : Addr) (ks : List (Addr × List Int)), xs = [V.ref l] ∧ SqT K H l (ks.map fun p => V.ref p.1) ∧ (∀ p ∈ ks, SqT K H p.1 (p.2.map V.int)) ∧ FewD ks ∧
  ∀ a L, H a = none → (∀ p ∈ L, p ∈ ks) → (∀ p ∈ ks, p.2 ∈ L.map (·.2)) → Q (.ref a) (upd H a (SetTO P w a L))
theorem cr_setTD (hc : X.calm = true) (hu : X.A.units + 65 < cLine) : CallR X (.type "set") (rSetTD X.K X.prog X.w) := by
  intro pins s σ H xs us Q I r ⟨l, ks, ex, hl, hk, hf, q⟩
  subst ex
  rw [Vals.ref1 r]
  obtain ⟨its, rv, pl, hz⟩ := I.tuple hl
  refine set_from_tupleD (P := X.prog) (w := X.w) ks (I.ok.hd hc) pl (by simpa using refs_of_vals rv) (fun p hp => I.isT (hk p hp)) hf (by omega) fun s2 ⟨h', tk, L, es, ep, t, e, R, g, k⟩ => ?_
  subst e
  exact ⟨.ref s.heap.objs.size, _, I.laid (t' := tk) k (Nat.le_refl _) (setTO_new R.t0), rfl, q _ L (I.hok.fresh (Nat.le_refl _)) (fun p hp => List.mem_of_mem_take (g.sub p hp)) fun p hp => g.all p (by rw [List.take_length]; exact hp)⟩
end
def dSS2 : List D → Option D
  | [.tup xs] => (prs xs).bind fun ps => if (nodups ps).length ≤ 62 ∧ ps.length ≤ 1000 ∧ ∀ p ∈ ps, below p then some (.lst (((nodups ps).mergeSort leP).map fun p => D.tup [.int p.1, .int p.2])) else none
  | _ => none
section
variable {X : Cx} {E : EX}
theorem sset_goD {H1 : Hp} {O : Addr → Prop} {Q : VK} {vs : List V} {ds : List D} {P : Program} {w : World} (r : RepBs X.K H1 O vs ds) (q : VN X.K H1 O Q (dSS2 ds)) :
    rSetTD X.K P w vs H1 fun v H2 => rSortedT X.K P w [v] H2 Q := by
  unfold dSS2 at q
  split at q
  · rename_i xs
    cases ep : prs xs with
    | none => rw [ep] at q; exact q.elim
    | some ps =>
      rw [ep, Option.bind_some] at q
      by_cases hc : (nodups ps).length ≤ 62 ∧ ps.length ≤ 1000 ∧ ∀ p ∈ ps, below p
      · rw [if_pos hc] at q
        have exs := prs_eq ep
        subst exs
        cases r with
        | cons rb rn =>
        cases rn
        obtain ⟨a, us, rfl, ha, hz, ru⟩ := rb.tup
        obtain ⟨ks, rfl, e2, e3⟩ := reps_ks ru
        have lk : ks.length = ps.length := by
          have := congrArg List.length e2
          simpa using this
        refine ⟨a, ks, rfl, ha, e3, fewD_of e2 hc.1, fun b L nb sub cov => ?_⟩
        have sm : Same H1 (upd H1 b (SetTO P w b L)) := same_new nb
        have in2 : ∀ q ∈ ks, ∃ p ∈ ps, q.2 = [p.1, p.2] := fun q hq => two_of (by rw [← e2]; exact List.mem_map_of_mem hq)
        have sqs : ∀ q ∈ ks, SqT X.K (upd H1 b (SetTO P w b L)) q.1 (q.2.map V.int) := fun q hq => sqt_same sm (e3 q hq)
        refine ⟨b, L, 2, 64, rfl, upd_same, fun q hq => sqs q (sub q hq), by decide, fun q hq => ?_, fun L' c pm nd few asc nc => ?_⟩
        · obtain ⟨p, hp, e⟩ := in2 q (sub q hq)
          obtain ⟨⟨b1, b2⟩, b3, b4⟩ := hc.2.2 p hp
          rw [e]
          refine ⟨rfl, fun n hn => ?_⟩
          simp only [List.mem_cons, List.not_mem_nil, or_false] at hn
          rcases hn with rfl | rfl
          · exact ⟨b1, b2⟩
          · exact ⟨b3, b4⟩
        · have inL : ∀ q ∈ L', ∃ p ∈ ps, q.2 = [p.1, p.2] := fun q hq => in2 q (sub q (pm.mem_iff.mp hq))
          obtain ⟨ls, els⟩ : ∃ ls : List PI2, L'.map (·.2) = ls.map (fun p => [p.1, p.2]) := by
            clear asc nd pm few
            induction L' with
            | nil => exact ⟨[], rfl⟩
            | cons q L' ih =>
              obtain ⟨ls, e⟩ := ih (fun q hq => inL q (by simp [hq]))
              obtain ⟨p, _, ep⟩ := inL q (by simp)
              exact ⟨p :: ls, by rw [List.map_cons, List.map_cons, e, ep]⟩
          have inj2 : ∀ {p p' : PI2}, [p.1, p.2] = [p'.1, p'.2] → p = p' := fun {p p'} e => by
            injection e with e1 e
            injection e with e2 e
            exact Prod.ext e1 e2
          have memls : ∀ x, x ∈ ls ↔ x ∈ ps := fun x => by
            have : [x.1, x.2] ∈ ls.map (fun p => [p.1, p.2]) ↔ x ∈ ls := ⟨fun h => by obtain ⟨p, hp, e⟩ := two_of h; rw [inj2 e]; exact hp, fun h => List.mem_map.mpr ⟨x, h, rfl⟩⟩
            rw [← this, ← els, (pm.map (·.2)).mem_iff]
            constructor
            · intro h
              obtain ⟨q, hq, e⟩ := List.mem_map.mp h
              obtain ⟨p, hp, e'⟩ := in2 q (sub q hq)
              rw [inj2 (e.symm.trans e')]
              exact hp
            · intro h
              have : [x.1, x.2] ∈ ks.map (·.2) := by rw [e2]; exact List.mem_map.mpr ⟨x, h, rfl⟩
              obtain ⟨q, hq, e⟩ := List.mem_map.mp this
              rw [← e]
              exact cov q hq
          have ndls : ls.Nodup := by
            rw [els] at nd
            exact List.Pairwise.of_map _ (fun a b hab e => hab (by rw [e])) nd
          have ascls : ls.Pairwise ltQ := by
            have a1 : (L'.map (·.2)).Pairwise fun q r => TS.code 64 q ≤ TS.code 64 r := List.pairwise_map.mpr asc
            rw [els, List.pairwise_map] at a1
            refine List.Pairwise.imp_of_mem (fun {x y} hx hy h => ?_) (a1.and ndls)
            obtain ⟨⟨b1, b2⟩, b3, b4⟩ := hc.2.2 x ((memls x).mp hx)
            obtain ⟨⟨c1, c2⟩, c3, c4⟩ := hc.2.2 y ((memls y).mp hy)
            exact L2.pair_lt h.1 (fun e => h.2 (inj2 e)) ⟨b1, b2⟩ ⟨b3, b4⟩ ⟨c1, c2⟩ ⟨c3, c4⟩
          have els2 : ls = (nodups ps).mergeSort leP := eq_asc _ _ ascls (sort_asc (nd_nodups ps)) fun x => by
            rw [List.mem_mergeSort, mem_nodups]
            exact memls x
          subst els2
          have cb : c ≠ b := fun e => by rw [e, upd_same] at nc; cases nc
          have sm2 : Same H1 (upd (upd H1 b (SetTO P w b L)) c (.lst (L'.map fun q => V.ref q.1))) := sm.trans (same_new nc)
          have nc1 : H1 c = none := by rw [upd_ne cb] at nc; exact nc
          refine q (.ref c) c _ sm2 nc1 ⟨rfl, .inr rfl, _, upd_same, by rw [List.length_map, sizeLine_eq]; omega, ?_⟩
          exact ks_reps els fun q hq => sqt_same (same_new nc) (sqs q (sub q (pm.mem_iff.mp hq)))
      · rw [if_neg hc] at q
        exact q.elim
  · exact q.elim
theorem en_ssetD {e : Expr} {f : Sls → Res D} {p p2 pos pos2 : Pos} (hc : X.calm = true) (hu : X.A.units + 65 < cLine) (hm : X.mg "sorted" = none) (hm2 : X.mg "set" = none) (he : EB X E e f) (hg : Gl X "sorted" := by rfl) (hg2 : Gl X "set" := by rfl)
    (hs : starEach [e] X.env = (false, eval e X.env) :: starEach [] X.env := by rfl) (hs2 : starEach [.Call (.Name "set" p2) [e] [] pos2] X.env = (false, eval (.Call (.Name "set" p2) [e] [] pos2) X.env) :: starEach [] X.env := by rfl) :
    EN X E (.Call (.Name "sorted" p) [.Call (.Name "set" p2) [e] [] pos2] [] pos) (mBI dSS2 [f]) :=
  pe_imp (pe_callB (cr_sortedT hc) hg hm (by decide +kernel) (pa_cons (pe_callTy (cr_setTD hc hu) hg2 hm2 (by decide +kernel) (ec_cons he ec_nil hs) (by decide) (by decide) hs rfl) pa_nil hs2) (by decide) (by decide) hs2 rfl) fun σ H Q ⟨ρ, O, FF, s, p⟩ => ⟨ρ, O, FF, s, p.bind.imp fun ds p1 vs H1 e1 r1 => sset_goD r1 (p1.vn e1)⟩
end
end PP

namespace PP
open PySem PySem.Spec PyProof.Rows L2
open Res (ok exc bad)
/-! ### tuple * int too -/
def dMulY : D → D → Option D
  | .tup xs, .int k => if xs ≠ [] ∧ 2 ≤ k ∧ k ≤ 1000 ∧ xs.length ≤ 1000 then some (.tup (List.replicate k.toNat xs).flatten) else none
  | a, b => dMulX a b
abbrev rMulY (K : PySem.W.Frag) : R2 := fun x y H Q => rMulX x y H Q ∨ rRepT K x y H Q
theorem op_mulY {X : Cx} : OpR X (binaryOp .Mult) (rMulY X.K) := op_mulX'.or op_repT
theorem o_mulY {K : PySem.W.Frag} : Op2 K (rMulY K) dMulY := by
  intro H O x y dx dy Q dm rx ry q
  unfold dMulY at q
  split at q
  · rename_i xs k
    by_cases c : xs ≠ [] ∧ 2 ≤ k ∧ k ≤ 1000 ∧ xs.length ≤ 1000
    · rw [if_pos c] at q
      obtain ⟨a, vs, rfl, h1, z1, r1⟩ := rx.tup
      have hl := r1.length
      have hz : (List.replicate k.toNat vs).flatten.length ≤ sizeLine := by
        rw [len_rep, hl]
        have a1 : xs.length * k.toNat ≤ 1000 * 1000 := Nat.mul_le_mul c.2.2.2 (by omega)
        exact Nat.le_trans a1 (Nat.le_trans (by decide) big_line)
      exact .inr ⟨a, k, vs, rfl, ry.int, h1, fun z => c.1 (by rw [z] at hl; exact List.length_eq_zero_iff.mp hl.symm), c.2.1, c.2.2.1, by rw [hl]; exact c.2.2.2, fun p n => q _ _ (same_new n) (.tup (.inl (.inl upd_same)) hz ((reps_rep r1 k.toNat).same (same_new n)))⟩
    · rw [if_neg c] at q; exact q.elim
  · exact .inl (o_mulX H O x y _ _ Q dm rx ry q)
end PP

namespace PP
open PySem PySem.Spec PyProof.Rows L2
/-! ### x -> 5 x + 1, modulo a power of two, runs through all -/
/-- 0, 1, a + 1, .. -/
def geo (a : Nat) : Nat → Nat
  | 0 => 0
  | n + 1 => a * geo a n + 1
theorem geo_par {a : Nat} (ha : a % 2 = 1) : ∀ n, geo a n % 2 = n % 2
  | 0 => rfl
  | n + 1 => by
    have ih := geo_par ha n
    show (a * geo a n + 1) % 2 = (n + 1) % 2
    rw [Nat.add_mod, Nat.mul_mod, ha, ih]
    omega
theorem geo_two (a : Nat) : ∀ n, geo a (2 * n) = (a + 1) * geo (a * a) n
  | 0 => by simp [geo]
  | n + 1 => by
    rw [show 2 * (n + 1) = 2 * n + 1 + 1 by omega]
    show a * (a * geo a (2 * n) + 1) + 1 = (a + 1) * (a * a * geo (a * a) n + 1)
    rw [geo_two a n]
    simp only [Nat.mul_add, Nat.add_mul, Nat.mul_one, Nat.one_mul, Nat.mul_assoc, Nat.mul_comm, Nat.mul_left_comm]
    omega
theorem odd_cop {a : Nat} (h : a % 2 = 1) (k : Nat) : Nat.Coprime (2 ^ k) a := by
  apply Nat.Coprime.pow_left
  show Nat.gcd 2 a = 1
  rw [Nat.gcd_rec, h]
  rfl
/-- the power of two in it is that in n -/
theorem geo_dvd : ∀ (k : Nat) (a n : Nat), a % 4 = 1 → 2 ^ k ∣ geo a n → 2 ^ k ∣ n
  | 0, _, _, _, _ => by simp
  | k + 1, a, n, ha, h => by
    have par := geo_par (a := a) (by omega) n
    have ev : geo a n % 2 = 0 := Nat.mod_eq_zero_of_dvd (Nat.dvd_trans ⟨2 ^ k, by rw [Nat.pow_succ, Nat.mul_comm]⟩ h)
    obtain ⟨m, rfl⟩ : ∃ m, n = 2 * m := ⟨n / 2, by omega⟩
    rw [geo_two] at h
    obtain ⟨c, hc⟩ : ∃ c, a + 1 = 2 * c := ⟨(a + 1) / 2, by omega⟩
    have oc : c % 2 = 1 := by omega
    rw [hc, Nat.mul_assoc, Nat.pow_succ, Nat.mul_comm (2 ^ k) 2] at h
    have h2 : 2 ^ k ∣ c * geo (a * a) m := Nat.dvd_of_mul_dvd_mul_left (by decide) h
    have h3 : 2 ^ k ∣ geo (a * a) m := Nat.Coprime.dvd_of_dvd_mul_left (odd_cop oc k) h2
    have h4 := geo_dvd k (a * a) m (by rw [Nat.mul_mod, ha]) h3
    rw [Nat.pow_succ, Nat.mul_comm (2 ^ k) 2]
    exact Nat.mul_dvd_mul_left 2 h4
/-- a mask: one less than a power of two -/
def Pw (m : Nat) : Prop := ∃ k, m + 1 = 2 ^ k
theorem five_inj {m : Nat} (h : Pw m) {x y : Nat} (hx : x ≤ m) (hy : y ≤ m) (e : (x * 5 + 1) % (m + 1) = (y * 5 + 1) % (m + 1)) : x = y := by
  obtain ⟨k, ek⟩ := h
  have key : ∀ x y : Nat, x ≤ y → y ≤ m → (x * 5 + 1) % (m + 1) = (y * 5 + 1) % (m + 1) → x = y := fun x y l hy e => by
    have d : (m + 1) ∣ (y * 5 + 1) - (x * 5 + 1) := by
      have a := Nat.mod_add_div (x * 5 + 1) (m + 1)
      have b := Nat.mod_add_div (y * 5 + 1) (m + 1)
      rw [e] at a
      refine ⟨(y * 5 + 1) / (m + 1) - (x * 5 + 1) / (m + 1), ?_⟩
      rw [Nat.mul_sub]
      omega
    have d2 : 2 ^ k ∣ (y - x) * 5 := by
      rw [ek] at d
      have : (y * 5 + 1) - (x * 5 + 1) = (y - x) * 5 := by omega
      rwa [this] at d
    have d3 : 2 ^ k ∣ y - x := Nat.Coprime.dvd_of_dvd_mul_right (odd_cop (by decide) k) d2
    rw [← ek] at d3
    rcases Nat.eq_zero_or_pos (y - x) with z | z
    · omega
    · have := Nat.le_of_dvd z d3; omega
  rcases Nat.le_total x y with l | l
  · exact key x y l hy e
  · exact (key y x l hx e.symm).symm
theorem lcgI_le {m i : Nat} (hi : i ≤ m) : ∀ k, lcgI m i k ≤ m
  | 0 => hi
  | k + 1 => Nat.le_of_lt_succ (Nat.mod_lt _ (Nat.succ_pos _))
theorem lcgI_form (m i : Nat) (hi : i ≤ m) : ∀ k, ∃ c, lcgI m i k + (m + 1) * c = i + geo 5 k * (4 * i + 1)
  | 0 => ⟨0, by simp [lcgI, geo]⟩
  | k + 1 => by
    obtain ⟨c, e⟩ := lcgI_form m i hi k
    refine ⟨5 * c + (lcgI m i k * 5 + 1) / (m + 1), ?_⟩
    have dm := Nat.mod_add_div (lcgI m i k * 5 + 1) (m + 1)
    show (lcgI m i k * 5 + 1) % (m + 1) + (m + 1) * (5 * c + (lcgI m i k * 5 + 1) / (m + 1)) = i + (5 * geo 5 k + 1) * (4 * i + 1)
    rw [Nat.mul_add, ← Nat.add_assoc, Nat.add_right_comm, dm, Nat.mul_left_comm]
    have e5 : 5 * (lcgI m i k + (m + 1) * c) = 5 * (i + geo 5 k * (4 * i + 1)) := by rw [e]
    rw [Nat.mul_add, Nat.mul_add] at e5
    have e6 : (5 * geo 5 k + 1) * (4 * i + 1) = 5 * (geo 5 k * (4 * i + 1)) + (4 * i + 1) := by rw [Nat.add_mul, Nat.one_mul, Nat.mul_assoc]
    rw [e6]
    omega
theorem lcgI_add (m i : Nat) (s : Nat) : ∀ k, lcgI m (lcgI m i s) k = lcgI m i (s + k)
  | 0 => rfl
  | k + 1 => by
    show (lcgI m (lcgI m i s) k * 5 + 1) % (m + 1) = (lcgI m i (s + k) * 5 + 1) % (m + 1)
    rw [lcgI_add m i s k]
/-- no return before the round's end -/
theorem lcgI_back {m : Nat} (h : Pw m) {i d : Nat} (hi : i ≤ m) (e : lcgI m i d = i) : (m + 1) ∣ d := by
  obtain ⟨c, ec⟩ := lcgI_form m i hi d
  rw [e] at ec
  have e2 : geo 5 d * (4 * i + 1) = (m + 1) * c := by omega
  obtain ⟨k, ek⟩ := h
  have d1 : 2 ^ k ∣ geo 5 d * (4 * i + 1) := by rw [e2, ek]; exact ⟨c, rfl⟩
  have d2 : 2 ^ k ∣ geo 5 d := Nat.Coprime.dvd_of_dvd_mul_right (odd_cop (by omega) k) d1
  rw [ek]
  exact geo_dvd k 5 d rfl d2
theorem lcgI_inj {m : Nat} (h : Pw m) {i : Nat} (hi : i ≤ m) : ∀ s t, s ≤ t → t ≤ m → lcgI m i s = lcgI m i t → s = t
  | 0, t, _, ht, e => by
    have d := lcgI_back h (d := t) hi e.symm
    rcases Nat.eq_zero_or_pos t with z | z
    · exact z.symm
    · have := Nat.le_of_dvd z d; omega
  | s + 1, t, l, ht, e => by
    obtain ⟨t', rfl⟩ : ∃ t', t = t' + 1 := ⟨t - 1, by omega⟩
    have e' : (lcgI m i s * 5 + 1) % (m + 1) = (lcgI m i t' * 5 + 1) % (m + 1) := e
    rw [lcgI_inj h hi s t' (by omega) (by omega) (five_inj h (lcgI_le hi s) (lcgI_le hi t') e')]
theorem pw_all {m : Nat} (h : Pw m) {i j : Nat} (hi : i ≤ m) (hj : j ≤ m) : ∃ k, k ≤ m ∧ lcgI m i k = j := by
  by_cases q : ∃ k, k ≤ m ∧ lcgI m i k = j
  · exact q
  · exfalso
    have nd : ((List.range (m + 1)).map (lcgI m i)).Nodup := by
      rw [List.Nodup, List.pairwise_map]
      refine List.Pairwise.imp_of_mem (fun {a b} ha hb hab e => ?_) (List.nodup_range (n := m + 1))
      have ha' := List.mem_range.mp ha
      have hb' := List.mem_range.mp hb
      rcases Nat.le_total a b with l | l
      · exact hab (lcgI_inj h hi a b l (by omega) e)
      · exact hab (lcgI_inj h hi b a l (by omega) e.symm).symm
    have := nat_nodup_len (j :: (List.range (m + 1)).map (lcgI m i)) (List.range (m + 1)) (List.nodup_cons.mpr ⟨fun hm => by
      obtain ⟨k, hk, e⟩ := List.mem_map.mp hm
      exact q ⟨k, by have := List.mem_range.mp hk; omega, e⟩, nd⟩) fun x hx => by
      rcases List.mem_cons.mp hx with e | hx
      · rw [e]; exact List.mem_range.mpr (by omega)
      · obtain ⟨k, _, rfl⟩ := List.mem_map.mp hx
        exact List.mem_range.mpr (by have := lcgI_le hi k; omega)
    simp at this
    omega
/-! ### each place is met in time -/
theorem pw_run {m : Nat} (h : Pw m) (x : Int) {j : Nat} (hj : j ≤ m) : ∃ n, n ≤ m + 12 ∧ L2.runI m (SetTable.bits x) n = j := by
  obtain ⟨k, l, e⟩ := pw_all h (runI_le m (SetTable.bits x) 12) hj
  exact ⟨12 + k, by omega, by rw [runI_tail (bits_lt x), e]⟩
theorem pw_meets {m : Nat} (h : Pw m) (x : Int) {j : Nat} (hj : j ≤ m) : ∃ k, k < 10 * SetTable.turns m ∧ way m x k = j := by
  obtain ⟨n, l, e⟩ := pw_run h x hj
  obtain ⟨k, lk, ek⟩ := run_nth m (SetTable.bits x) n
  exact ⟨k, by show k < 10 * (m + 15); omega, by show (nth m _ k).j = j; rw [ek]; exact e⟩
theorem way_in (m : Nat) (x : Int) (k : Nat) : way m x k ≤ m := by
  have hb := runEnd_bd (m := m) (i := SetTable.bits x % (m + 1)) (Nat.le_of_lt_succ (Nat.mod_lt _ (Nat.succ_pos _)))
  have := nth_in (m := m) k (runAt m (SetTable.bits x % (m + 1)) (SetTable.bits x)) (by
    show SetTable.bits x % (m + 1) + (SetTable.runEnd m (SetTable.bits x % (m + 1)) - SetTable.bits x % (m + 1)) ≤ m
    omega)
  show (nth m _ k).j ≤ m
  omega
end PP

namespace PP
open PySem PySem.Spec PyProof.Rows L2
/-! ### tables with any mask -/
/-- where all can be found again -/
structure TabP (t : SetTable) (hs : List Int) : Prop where
  asc : Ris t.place.toList
  none : t.dummies = #[]
  len : t.place.toList.length = hs.length
  pw : Pw t.mask
  inn : ∀ x ∈ t.place.toList, x ≤ t.mask
  wy : ∀ (n : Nat) (x : Int) (y : Nat), hs[n]? = some x → t.place.toList[n]? = some y → ∃ k, way t.mask x k = y ∧ ∀ q, q < k → way t.mask x q ∈ t.place.toList
theorem TabP.free {t : SetTable} {hs : List Int} (T : TabP t hs) (l : hs.length ≤ t.mask) (x : Int) : ∃ K, K < 10 * SetTable.turns t.mask ∧ way t.mask x K ∉ t.place.toList ∧ ∀ q, q < K → way t.mask x q ∈ t.place.toList := by
  obtain ⟨y, hy, ny⟩ := st_missing t.place.toList (t.mask + 1) (by have := T.len; omega)
  obtain ⟨k, lk, ek⟩ := pw_meets T.pw x (show y ≤ t.mask by omega)
  obtain ⟨K, a, b, c⟩ := st_least (p := fun q => way t.mask x q ∉ t.place.toList) k (by rw [ek]; exact ny)
  exact ⟨K, by omega, b, fun q hq => Classical.byContradiction (c q hq)⟩
theorem TabP.ahead {t : SetTable} {hs : List Int} (T : TabP t hs) {x : Int} {K n y : Nat} (nK : way t.mask x K ∉ t.place.toList) (e1 : hs[n]? = some x) (e2 : t.place.toList[n]? = some y) : ∃ k, k < K ∧ way t.mask x k = y := by
  obtain ⟨k, ek, bk⟩ := T.wy n x y e1 e2
  refine ⟨k, Nat.lt_of_not_le fun l => ?_, ek⟩
  rcases Nat.lt_or_eq_of_le l with l | l
  · exact nK (bk K l)
  · rw [l, ek] at nK
    exact nK (List.mem_of_getElem? e2)
theorem mask_par {m : Nat} (h : Pw m) (l : 1 ≤ m) : m % 2 = 1 := by
  obtain ⟨k, e⟩ := h
  cases k with
  | zero => simp at e; omega
  | succ k => rw [Nat.pow_succ] at e; omega
/-- one more at the first free place of its way -/
theorem TabP.add {t : SetTable} {hs : List Int} (T : TabP t hs) {x : Int} {K : Nat} (nK : way t.mask x K ∉ t.place.toList) (bK : ∀ q, q < K → way t.mask x q ∈ t.place.toList) {t1 : SetTable} {n : Nat} (e : t.put (way t.mask x K) = (t1, n)) :
    n = SetTable.below t.place (way t.mask x K) ∧ n ≤ hs.length ∧ TabP t1 (hs.take n ++ x :: hs.drop n) ∧ t1.mask = t.mask ∧ t1.led = t.led ∧ t1.plain = t.plain ∧ t1.fill = hs.length + 1 := by
  generalize hy : way t.mask x K = y at nK e
  have hn : n = SetTable.below t.place y := (congrArg Prod.snd e).symm
  have ht : t1 = (t.put y).1 := (congrArg Prod.fst e).symm
  have hm : t1.mask = t.mask := by rw [ht]; rfl
  obtain ⟨c1, _, _⟩ := below_cut T.asc y
  have hsz : t.place.size = hs.length := by rw [← T.len, Array.length_toList]
  have nle : n ≤ hs.length := by rw [hn, ← hsz]; exact c1
  have nle2 : n ≤ t.place.toList.length := by rw [T.len]; exact nle
  have pl : t1.place.toList = t.place.toList.take n ++ y :: t.place.toList.drop n := by rw [ht, hn]; exact put_place t y
  have up : ∀ z, z ∈ t.place.toList → z ∈ t1.place.toList := fun z hz => by rw [pl]; exact mem_ins.mpr (.inr hz)
  have lp : t1.place.toList.length = hs.length + 1 := by rw [pl, len_ins _ nle2, T.len]
  refine ⟨hn, nle, ⟨?_, by rw [ht]; exact put_dm T.none y, by rw [lp, len_ins _ nle], by rw [hm]; exact T.pw, fun z hz => ?_, fun i u v q1 q2 => ?_⟩, hm, by rw [ht]; rfl, by rw [ht]; rfl, ?_⟩
  · rw [ht]
    exact ris_insert T.asc fun z => nK (List.mem_of_getElem? (by rw [Array.getElem?_toList]; exact z))
  · rw [hm]
    rw [pl] at hz
    rcases mem_ins.mp hz with z | z
    · rw [z, ← hy]; exact way_in _ _ _
    · exact T.inn _ z
  · rw [hm]
    rw [tins_get hs nle] at q1
    rw [pl, tins_get _ nle2] at q2
    by_cases a : i < n
    · rw [if_pos a] at q1 q2
      obtain ⟨k, ek, bk⟩ := T.wy i u v q1 q2
      exact ⟨k, ek, fun q hq => up _ (bk q hq)⟩
    · rw [if_neg a] at q1 q2
      by_cases b : i = n
      · rw [if_pos b] at q1 q2
        cases q1
        cases q2
        exact ⟨K, hy, fun q hq => up _ (bK q hq)⟩
      · rw [if_neg b] at q1 q2
        obtain ⟨k, ek, bk⟩ := T.wy (i - 1) u v q1 q2
        exact ⟨k, ek, fun q hq => up _ (bk q hq)⟩
  · show t1.place.size + t1.dummies.size = hs.length + 1
    have d : t1.dummies = #[] := by rw [ht]; exact put_dm T.none y
    rw [d, ← Array.length_toList, lp]
    rfl
/-! ### laid anew -/
theorem free_at {m : Nat} (h : Pw m) (ow : Array (Option Nat)) (x : Int) {y : Nat} (hy : y ≤ m) (fr : oAt ow y = none) :
    ∃ K, SetTable.layClean.free m ow (SetTable.turns m) (SetTable.bits x % (m + 1)) (SetTable.bits x) = some (way m x K) ∧ oAt ow (way m x K) = none ∧ ∀ q, q < K → oAt ow (way m x q) ≠ none := by
  obtain ⟨n, ln, en⟩ := pw_run h x hy
  have at_n : way m x (off m (SetTable.bits x % (m + 1)) (SetTable.bits x) n) = y := by
    show (nth m _ _).j = y
    rw [nth_off, itL_run]
    exact en
  obtain ⟨K, a, b, c⟩ := st_least (p := fun q => oAt ow (way m x q) = none) _ (show oAt ow (way m x (off m (SetTable.bits x % (m + 1)) (SetTable.bits x) n)) = none by rw [at_n]; exact fr)
  refine ⟨K, free_spec m ow _ n _ _ K (by show n < m + 15; omega) a (fun q hq => ?_) ?_, b, c⟩
  · have := c q hq
    revert this
    show oAt ow (way m x q) ≠ none → (oAt ow (way m x q)).isNone = false
    cases oAt ow (way m x q) with
    | none => exact fun z => absurd rfl z
    | some _ => exact fun _ => rfl
  · show (oAt ow (way m x K)).isNone = true
    rw [b]
    rfl
theorem own_more {m : Nat} (h : Pw m) {hs : List Int} {ow : Array (Option Nat)} (W : Own m hs ow) (l : hs.length ≤ m) (x : Int) :
    ∃ y, SetTable.layClean.free m ow (SetTable.turns m) (SetTable.bits x % (m + 1)) (SetTable.bits x) = some y ∧ Own m (hs ++ [x]) (ow.setIfInBounds y (some hs.length)) := by
  obtain ⟨ps, lp, ip⟩ := W.ps
  obtain ⟨y0, l0, n0⟩ := st_missing ps (m + 1) (by omega)
  have fr : oAt ow y0 = none := Classical.byContradiction fun z => n0 (ip y0 (by omega) z)
  obtain ⟨K, e, f1, f2⟩ := free_at h ow x (show y0 ≤ m by omega) fr
  generalize hy : way m x K = y at e f1
  have ym : y ≤ m := by rw [← hy]; exact way_in _ _ _
  have yb : y < ow.size := by rw [W.sz]; omega
  have slf := oAt_set_self (some hs.length) yb
  have keep : ∀ z, oAt ow z ≠ none → oAt (ow.setIfInBounds y (some hs.length)) z ≠ none := fun z hz => by
    by_cases c : z = y
    · rw [c, slf]; simp
    · rw [oAt_set_ne _ c]; exact hz
  refine ⟨y, e, ⟨(Array.size_setIfInBounds ..).trans W.sz, fun z k hz ez => ?_, fun k hk => ?_, ⟨y :: ps, by simp [lp], fun z hz nz => ?_⟩⟩⟩
  · by_cases c : z = y
    · rw [c, slf] at ez
      cases ez
      exact ⟨x, K, by simp, by rw [hy, c], fun q hq => keep _ (f2 q hq)⟩
    · rw [oAt_set_ne _ c] at ez
      obtain ⟨u, K', b1, b2, b3⟩ := W.at_ z k hz ez
      exact ⟨u, K', by rw [List.getElem?_append_left (List.getElem?_eq_some_iff.mp b1).1]; exact b1, b2, fun q hq => keep _ (b3 q hq)⟩
  · simp only [List.length_append, List.length_cons, List.length_nil] at hk
    by_cases c : k = hs.length
    · exact ⟨y, ym, by rw [slf, c]⟩
    · obtain ⟨z, hz, ez⟩ := W.all k (by omega)
      exact ⟨z, hz, by rw [oAt_set_ne _ (fun w => by rw [w, f1] at ez; cases ez)]; exact ez⟩
  · by_cases c : z = y
    · rw [c]; exact List.mem_cons_self
    · rw [oAt_set_ne _ c] at nz
      exact List.mem_cons_of_mem _ (ip z hz nz)
theorem own_all {m : Nat} (h : Pw m) : ∀ (r hs : List Int) (ow : Array (Option Nat)), Own m hs ow → hs.length + r.length ≤ m → ∃ ow', r.foldl (stepF m) (some (ow, hs.length)) = some (ow', (hs ++ r).length) ∧ Own m (hs ++ r) ow'
  | [], hs, ow, W, _ => ⟨ow, by simp, by simpa using W⟩
  | x :: r, hs, ow, W, l => by
    simp only [List.length_cons] at l
    obtain ⟨y, e, W1⟩ := own_more h W (by omega) x
    obtain ⟨ow2, e2, W2⟩ := own_all h r (hs ++ [x]) _ W1 (by simp; omega)
    refine ⟨ow2, ?_, by simpa using W2⟩
    rw [List.foldl_cons, stepF_some e]
    simpa using e2
theorem relaid_pw (t : SetTable) {hs : Array Int} {wd M : Nat} (eM : SetTable.sizeAbove wd - 1 = M) (h : Pw M) (l : hs.size ≤ M) :
    ∃ t2 od, t.relaid hs wd = some (t2, od) ∧ od.toList.Perm (List.range hs.size) ∧ TabP t2 (od.toList.map fun i => hs.getD i 0) ∧ t2.mask = M ∧ t2.led = t.led ∧ t2.plain = t.plain := by
  obtain ⟨ow, fo, W⟩ := own_all h hs.toList [] _ (Own.init M) (by simpa using l)
  have lc : SetTable.layClean M hs = some ow := by
    rw [layClean_eq]
    show (List.foldl (stepF M) (some (Array.replicate (M + 1) none, ([] : List Int).length)) hs.toList).map (·.1) = some ow
    rw [fo]
    rfl
  rw [List.nil_append] at W
  have er : t.relaid hs wd = some (tabOf t M ow, ((liveOf M ow).map (·.2)).toArray) := by
    rw [relaid_eq, eM, lc]
    rfl
  have ri := ris_live (fun j => ow.getD j none) (List.range (M + 1)) (by unfold Ris; exact List.pairwise_lt_range)
  have asc : Ris ((liveOf M ow).map (·.1)) := ri.1
  have nd : ((liveOf M ow).map (·.1)).Nodup := List.Pairwise.imp (fun q => Nat.ne_of_lt q) asc
  have ll : (liveOf M ow).length = hs.size := by
    obtain ⟨ps, lp, ip⟩ := W.ps
    have up := nat_nodup_len _ ps nd fun z hz => by
      obtain ⟨⟨u, k⟩, hu, rfl⟩ := List.mem_map.mp hz
      obtain ⟨b1, b2⟩ := (mem_live W.sz).mp hu
      exact ip u b1 (by rw [b2]; simp)
    have dn := nat_nodup_len (List.range hs.size) ((liveOf M ow).map (·.2)) List.nodup_range fun k hk => by
      obtain ⟨z, b1, b2⟩ := W.all k (by simpa using hk)
      exact List.mem_map.mpr ⟨(z, k), (mem_live W.sz).mpr ⟨b1, b2⟩, rfl⟩
    simp at up dn
    have : hs.toList.length = hs.size := Array.length_toList
    omega
  refine ⟨_, _, er, perm_range hs.size _ (by simpa using ll) fun k hk => ?_, ⟨asc, rfl, ?_, h, fun z hz => ?_, fun i u v q1 q2 => ?_⟩, rfl, rfl, rfl⟩
  · obtain ⟨z, b1, b2⟩ := W.all k (by simpa using hk)
    exact List.mem_map.mpr ⟨(z, k), (mem_live W.sz).mpr ⟨b1, b2⟩, rfl⟩
  · show ((liveOf M ow).map (·.1)).length = (((liveOf M ow).map (·.2)).map _).length
    simp
  · have hz : z ∈ (liveOf M ow).map (·.1) := hz
    obtain ⟨⟨a, k⟩, ha, rfl⟩ := List.mem_map.mp hz
    exact ((mem_live W.sz).mp ha).1
  · have q1 : (((liveOf M ow).map (·.2)).map fun i => hs.getD i 0)[i]? = some u := q1
    have q2 : ((liveOf M ow).map (·.1))[i]? = some v := q2
    rw [List.map_map, List.getElem?_map] at q1
    rw [List.getElem?_map] at q2
    obtain ⟨⟨a, k⟩, ha, e2⟩ := Option.map_eq_some_iff.mp q2
    rw [ha] at q1
    have e2 : a = v := e2
    have e1 : hs.getD k 0 = u := by injection q1
    subst e1 e2
    obtain ⟨b1, b2⟩ := (mem_live W.sz).mp (List.mem_of_getElem? ha)
    obtain ⟨u, K, c1, c2, c3⟩ := W.at_ a k b1 b2
    have eu : hs.getD k 0 = u := by simp [Array.getD_eq_getD_getElem?, ← Array.getElem?_toList, c1]
    rw [eu]
    refine ⟨K, c2, fun q hq => ?_⟩
    show way M u q ∈ (liveOf M ow).map (·.1)
    cases z : oAt ow (way M u q) with
    | none => exact absurd z (c3 q hq)
    | some k2 => exact List.mem_map.mpr ⟨(way M u q, k2), (mem_live W.sz).mpr ⟨way_in _ _ _, z⟩, rfl⟩
/-! ### how large -/
theorem sizeAbove_go : ∀ (f n sz k : Nat), sz = 2 ^ k → ∃ k', SetTable.sizeAbove.go n f sz = 2 ^ k' ∧ sz ≤ SetTable.sizeAbove.go n f sz ∧ (n < sz * 2 ^ f → n < SetTable.sizeAbove.go n f sz) ∧ (SetTable.sizeAbove.go n f sz ≤ sz ∨ SetTable.sizeAbove.go n f sz ≤ 2 * n)
  | 0, n, sz, k, e => ⟨k, e, Nat.le_refl _, fun h => by unfold SetTable.sizeAbove.go; simpa using h, .inl (Nat.le_refl _)⟩
  | f + 1, n, sz, k, e => by
    unfold SetTable.sizeAbove.go
    by_cases c : sz ≤ n
    · rw [if_pos c]
      obtain ⟨k', a, b, d, g⟩ := sizeAbove_go f n (sz * 2) (k + 1) (by rw [e, Nat.pow_succ])
      exact ⟨k', a, by omega, fun h => d (by rw [Nat.mul_assoc, ← Nat.pow_succ']; exact h), .inr (by omega)⟩
    · rw [if_neg c]
      exact ⟨k, e, Nat.le_refl _, fun _ => by omega, .inl (Nat.le_refl _)⟩
theorem sizeAbove_ok {n : Nat} (h : n ≤ 100000) : ∃ k, SetTable.sizeAbove n = 2 ^ k ∧ n < SetTable.sizeAbove n ∧ 8 ≤ SetTable.sizeAbove n ∧ (SetTable.sizeAbove n ≤ 8 ∨ SetTable.sizeAbove n ≤ 2 * n) := by
  obtain ⟨k, a, b, c, d⟩ := sizeAbove_go 64 n 8 3 rfl
  exact ⟨k, a, c (Nat.lt_of_le_of_lt h (by decide)), b, d⟩
end PP

namespace PP
open PySem PySem.Spec PyProof.Rows L2
/-! ### keys: tuples of numbers and of such -/
mutual
def numK : NestedKey → Bool
  | .none => false
  | .num _ => true
  | .text _ => false
  | .tup ks => numKs ks
def numKs : List NestedKey → Bool
  | [] => true
  | k :: ks => numK k && numKs ks
end
/-- at a stands the key k -/
structure IsN (h : Heap) (k : NestedKey) (a : Addr) : Prop where
  is : NestedIs h k (.ref a)
  dp : k.depth ≤ 8
  nm : numK k = true
theorem IsN.kind {P : Program} {w : World} {h : Heap} {k : NestedKey} {a : Addr} (x : IsN h k a) : (nestedKind P w).is h k a := ⟨x.is, x.dp⟩
theorem IsN.inj {h : Heap} {k k' : NestedKey} {a : Addr} (x : IsN h k a) (y : IsN h k' a) : k = k' := NestedIs.inj _ _ _ x.is y.is
theorem IsN.stay {h h' : Heap} {k : NestedKey} {a : Addr} (x : IsN h k a) (g : ∀ b o, h.get? b = some o → h'.get? b = some o) : IsN h' k a := ⟨NestedIs.at (fun b o vs n q _ => g b o q) k _ x.is, x.dp, x.nm⟩
theorem IsN.but {h h' : Heap} {k : NestedKey} {a b : Addr} {o : Obj} {es : Array (Int × Value)} {ep : Nat} {t : SetTable} (x : IsN h k b) (ho : h.get? a = some o) (hd : o.data = .set es ep t) (g : Heap.SameBut a h h') : IsN h' k b :=
  ⟨NestedIs.at (fun c u vs n q r => (g.2 c fun e => by
    subst e
    rw [ho] at q
    cases q
    rw [hd] at r
    cases r).trans q) k _ x.is, x.dp, x.nm⟩
section
variable {P : Program} {w : World} {A : Around} {E : Value → Shared → Prop} {s : Shared}
theorem all_mem {h : Heap} : ∀ {ks : List NestedKey} {vs : List Value} {n : Nat}, NestedAll h ks vs → numKs ks = true → NestedKey.depthAll ks ≤ n → ∀ v ∈ vs, ∃ k, NestedIs h k v ∧ numK k = true ∧ k.depth ≤ n
  | _, _, _, .nil, _, _, v, hv => by cases hv
  | _, _, n, .cons (k := k) (ks := ks) r t, hn, hd, v, hv => by
    simp only [numKs, Bool.and_eq_true] at hn
    simp only [NestedKey.depthAll] at hd
    rcases List.mem_cons.mp hv with e | e
    · rw [e]; exact ⟨k, r, hn.1, by omega⟩
    · exact all_mem t hn.2 (by omega) v e
/-- its hash tells no place -/
theorem hashBy_n : ∀ (n : Nat) {k : NestedKey} {v : Value} {s : Shared} {Q : Bool → Shared → Prop}, NestedIs s.heap k v → numK k = true → k.depth ≤ n → Q true s → wpAny (model P w) A (hashByValue n v) Q E s := by
  intro n
  induction n with
  | zero =>
    intro k v s Q x nm dp h
    cases x with
    | none => cases nm
    | text => cases nm
    | bool e => exact wpAny_pure h
    | int i t => exact wpAny_pure h
    | tup _ _ _ _ => simp only [NestedKey.depth] at dp; omega
  | succ n ih =>
    intro k v s Q x nm dp h
    cases x with
    | none => cases nm
    | text => cases nm
    | bool e => exact wpAny_pure h
    | int i t => exact wpAny_pure h
    | tup g c d ka =>
      simp only [NestedKey.depth] at dp
      have els := all_mem (n := n) ka (by simpa [numK] using nm) (by omega)
      unfold hashByValue
      refine wpAny_bind (wpAny_specialOf ⟨_, g, c⟩ F.slot_tuple_hash.lookup (?_))
      show wpAny _ _ (seqItems? _ >>= _) _ _ _
      refine wpAny_bind (wpAny_seqItems g d (wpAny_bind ?_))
      show wpAny _ _ (forIn _ _ _) _ _ _
      rw [← Array.forIn_toList]
      refine wpAny_forIn_list _ (fun l r z => (r.1 = none ∧ z = s) ∧ ∀ v ∈ l, ∃ k, NestedIs s.heap k v ∧ numK k = true ∧ k.depth ≤ n) _ (fun u l r z q => ?_) (fun r z q => ?_) _ _ ⟨⟨rfl, rfl⟩, els⟩
      · obtain ⟨⟨q1, rfl⟩, q2⟩ := q
        obtain ⟨k', x', nm', dp'⟩ := q2 u List.mem_cons_self
        refine wpAny_bind (ih x' nm' dp' ?_)
        simp only [Bool.not_true, Bool.false_eq_true, if_false]
        exact wpAny_pure ⟨⟨rfl, rfl⟩, fun y hy => q2 y (List.mem_cons_of_mem _ hy)⟩
      · obtain ⟨r1, r2⟩ := r
        obtain ⟨⟨q1, rfl⟩, _⟩ := q
        simp only at q1
        subst q1
        exact wpAny_pure h
theorem ofCls_n : ∀ (n : Nat) {k : NestedKey} {v : Value} {s : Shared} {Q : Bool → Shared → Prop}, NestedIs s.heap k v → numK k = true → k.depth ≤ n → Q false s → wpAny (model P w) A (ofAClassStatement n v) Q E s := by
  intro n
  induction n with
  | zero =>
    intro k v s Q x nm dp h
    cases x with
    | none => cases nm
    | text => cases nm
    | bool e => exact wpAny_pure h
    | int i t => exact wpAny_pure h
    | tup _ _ _ _ => simp only [NestedKey.depth] at dp; omega
  | succ n ih =>
    intro k v s Q x nm dp h
    cases x with
    | none => cases nm
    | text => cases nm
    | bool e => exact wpAny_pure h
    | int i t => exact wpAny_pure h
    | @tup a o vs _ _ g c d ka =>
      simp only [NestedKey.depth] at dp
      have els := all_mem (n := n) ka (by simpa [numK] using nm) (by omega)
      have ty : s.TypeIs (.ref a) "tuple" := ⟨_, g, c⟩
      unfold ofAClassStatement
      refine wpAny_bind (wpAny_typeOf ty (?_))
      dsimp only
      have tt : (("tuple" : String) == "tuple") = true := by decide
      simp only [tt, if_true, Bool.not_true, Bool.false_eq_true, if_false]
      try refine wpAny_bind (wpAny_pure (?_))
      try simp only [Bool.not_true, Bool.false_eq_true, if_false, reduceIte]
      show wpAny _ _ (seqItems? _ >>= _) _ _ _
      refine wpAny_bind (wpAny_seqItems g d ?_)
      dsimp only
      refine wpAny_bind (?_)
      show wpAny _ _ (forIn _ _ _) _ _ _
      rw [← Array.forIn_toList]
      refine wpAny_forIn_list _ (fun l r z => (r.1 = none ∧ z = s) ∧ ∀ v ∈ l, ∃ k, NestedIs s.heap k v ∧ numK k = true ∧ k.depth ≤ n) _ (fun u l r z q => ?_) (fun r z q => ?_) _ _ ⟨⟨rfl, rfl⟩, els⟩
      · obtain ⟨⟨q1, rfl⟩, q2⟩ := q
        obtain ⟨k', x', nm', dp'⟩ := q2 u List.mem_cons_self
        refine wpAny_bind (ih x' nm' dp' ?_)
        simp only [Bool.false_eq_true, if_false]
        exact wpAny_pure ⟨⟨rfl, rfl⟩, fun y hy => q2 y (List.mem_cons_of_mem _ hy)⟩
      · obtain ⟨r1, r2⟩ := r
        obtain ⟨⟨q1, rfl⟩, _⟩ := q
        simp only at q1
        subst q1
        exact wpAny_pure h
theorem seen_n {k : NestedKey} {b : Addr} {Q : Bool → Shared → Prop} (x : IsN s.heap k b) {ys : List Value} (hy : ∀ y ∈ ys, ∃ k' c, y = Value.ref c ∧ IsN s.heap k' c) (h : Q false s) : wpAny (model P w) A (searchCouldBeSeen (.ref b) ys) Q E s := by
  unfold searchCouldBeSeen
  refine wpAny_bind (wpAny_forIn_list _ (fun l r z => (r.1 = none ∧ z = s) ∧ ∀ y ∈ l, ∃ k' c, y = Value.ref c ∧ IsN s.heap k' c) _ (fun u l r z q => ?_) (fun r z q => ?_) _ _ ⟨⟨rfl, rfl⟩, hy⟩)
  · obtain ⟨⟨q1, rfl⟩, q2⟩ := q
    obtain ⟨k', c, rfl, x'⟩ := q2 u List.mem_cons_self
    have nx : ∀ y ∈ l, ∃ k' c, y = Value.ref c ∧ IsN z.heap k' c := fun y m => q2 y (List.mem_cons_of_mem _ m)
    dsimp only
    by_cases hv : (b == c || (carriedByValue (.ref b) && carriedByValue (.ref c))) = true
    · exact wp_if_pos hv (wpAny_pure ⟨⟨rfl, rfl⟩, nx⟩)
    · refine wp_if_neg hv (wpAny_bind ((nestedKind P w).quiet x.kind ?_))
      simp only [Bool.not_true, Bool.false_eq_true, if_false]
      refine wpAny_bind ((nestedKind P w).quiet x'.kind ?_)
      simp only [Bool.not_true, Bool.false_eq_true, if_false]
      refine wpAny_bind (ofCls_n 8 x.is x.nm x.dp ?_)
      simp only [Bool.false_eq_true, if_false]
      refine wpAny_bind (ofCls_n 8 x'.is x'.nm x'.dp ?_)
      simp only [Bool.false_eq_true, if_false]
      exact wpAny_pure ⟨⟨rfl, rfl⟩, nx⟩
  · obtain ⟨r1, r2⟩ := r
    obtain ⟨⟨q1, rfl⟩, _⟩ := q
    simp only at q1
    subst q1
    exact wpAny_pure h
/-! ### a set of such keys -/
def rowsN (w : World) (L : List (Addr × NestedKey)) : List (Int × Value) := L.map fun p => (p.2.hash w, Value.ref p.1)
structure SetN (w : World) (h : Heap) (a : Addr) (L : List (Addr × NestedKey)) (es : Array (Int × Value)) (ep : Nat) (t : SetTable) : Prop where
  ob : ∃ o, h.get? a = some o ∧ o.ExactSet ∧ o.data = .set es ep t
  rows : es.toList = rowsN w L
  tab : TabP t (L.map fun p => p.2.hash w)
  nd : (L.map (·.2)).Nodup
  keys : ∀ p ∈ L, IsN h p.2 p.1
  plain : t.plain = true
  led : w.params.followText "set-order" = true ∨ t.led = true
  room : L.length * 5 < t.mask * 3
  big : t.mask ≤ 8191
variable {a : Addr} {L : List (Addr × NestedKey)} {es : Array (Int × Value)} {ep : Nat} {t : SetTable}
theorem rowsN_size (e : es.toList = rowsN w L) : es.size = L.length := by
  rw [← Array.length_toList, e, rowsN, List.length_map]
theorem rowsN_at (e : es.toList = rowsN w L) {i : Nat} {p : Addr × NestedKey} (h : L[i]? = some p) : es[i]? = some (p.2.hash w, Value.ref p.1) := by
  rw [← Array.getElem?_toList, e, rowsN, List.getElem?_map, h]
  rfl
theorem fits_n (e : es.toList = rowsN w L) (T : TabP t (L.map fun p => p.2.hash w)) (l : L.length ≤ t.mask) : t.fits es.size = true := by
  have h1 := T.len
  rw [List.length_map, Array.length_toList] at h1
  unfold SetTable.fits SetTable.fill
  rw [T.none, rowsN_size e]
  simp [h1, l]
theorem SetN.fits (R : SetN w s.heap a L es ep t) : t.fits es.size = true := fits_n R.rows R.tab (by have := R.room; omega)
theorem SetN.gave (R : SetN w s.heap a L es ep t) : ¬ t.gaveWay = true := by
  unfold SetTable.gaveWay
  rw [mask_par R.tab.pw (by have := R.room; omega)]
  decide
abbrev wy0 (m : Nat) (x : Int) : SetTable.Probe := runAt m (SetTable.bits x % (m + 1)) (SetTable.bits x)
theorem nth_dum (m : Nat) : ∀ (n : Nat) (p : SetTable.Probe), p.dummy = none → (nth m p n).dummy = none
  | 0, _, h => h
  | n + 1, p, h => nth_dum m n (adv m p) (by unfold adv; split <;> exact h)
/-- the search from the c-th step on -/
theorem find_n (R : SetN w s.heap a L es ep t) {b : Addr} {k : NestedKey} (x : IsN s.heap k b) (hu : A.units + 8 < cLine) {K : Nat} (lK : K < 10 * SetTable.turns t.mask) (nK : way t.mask (k.hash w) K ∉ t.place.toList) (bK : ∀ c, c < K → way t.mask (k.hash w) c ∈ t.place.toList)
    {Q : SetFound → Shared → Prop} (yes : k ∈ L.map (·.2) → Q (.there none) s) (no : k ∉ L.map (·.2) → Q (.free (way t.mask (k.hash w) K) false) s) :
    ∀ (f c : Nat) (st : Option SetTable.Probe), st.getD (t.probeStart (k.hash w)) = nth t.mask (wy0 t.mask (k.hash w)) c → c ≤ K → K - c < f →
      (∀ (i : Nat) p, L[i]? = some p → p.2 = k → ∃ c', c ≤ c' ∧ c' < K ∧ t.place.toList[i]? = some (way t.mask (k.hash w) c')) →
      wpAny (model P w) A (setSearchFrom a (.ref b) (k.hash w) true f st) Q E s := by
  intro f
  induction f with
  | zero => intro c st _ _ z; exact absurd z (Nat.not_lt_zero _)
  | succ f ih =>
    intro c st est cK hf later
    obtain ⟨o, ho, hex, hd⟩ := R.ob
    rw [setSearchFrom_succ]
    refine wpAny_bind (wpAny_setState_of ho hd R.fits (?_))
    dsimp only
    refine wp_if_neg R.gave (?_)
    try refine wpAny_bind (wpAny_pure (?_))
    generalize hx : k.hash w = x0 at est nK bK later lK no ih ⊢
    have sh : ∀ q, nth t.mask (nth t.mask (wy0 t.mask x0) c) q = nth t.mask (wy0 t.mask x0) (c + q) := fun q => (nth_add t.mask c _ q).symm
    have shj : ∀ q, (nth t.mask (nth t.mask (wy0 t.mask x0) c) q).j = way t.mask x0 (c + q) := fun q => by rw [sh]
    have hat : ∀ (i : Nat) p, L[i]? = some p → (es[i]?.map (·.1)).getD 0 = p.2.hash w := fun i p e => by rw [rowsN_at R.rows e]; rfl
    have sp := go_spec t R.tab.asc R.tab.none (fun i => (es[i]?.map (·.1)).getD 0) x0 (10 * SetTable.turns t.mask) (K - c) _ (nth_dum t.mask c (wy0 t.mask x0) rfl) (by omega)
      (fun q hq => by rw [shj]; exact bK (c + q) (by omega)) (by rw [shj, show c + (K - c) = K by omega]; exact nK)
    rcases sp with ⟨q, i, lq, iq, hq, before, pr⟩ | ⟨before, pr⟩
    · rw [shj, sh] at pr
      have pr2 : t.probe (fun i => (es[i]?.map (·.1)).getD 0) x0 (st.getD (t.probeStart x0)) = some (.candidate (way t.mask x0 (c + q)) i (nth t.mask (wy0 t.mask x0) (c + (q + 1)))) := by rw [est]; exact pr
      rw [pr2]
      dsimp only
      rw [shj] at iq
      have il : i < L.length := by
        have h1 := (List.getElem?_eq_some_iff.mp iq).1
        have h2 := R.tab.len
        rw [List.length_map] at h2
        omega
      obtain ⟨p, hp⟩ : ∃ p, L[i]? = some p := ⟨_, List.getElem?_eq_getElem il⟩
      have mp : p ∈ L := List.mem_of_getElem? hp
      have xp := R.keys p mp
      have go : wpAny (model P w) A (searchRest a (.ref b) x0 true f es t (way t.mask x0 (c + q)) i (nth t.mask (wy0 t.mask x0) (c + (q + 1)))) Q E s := by
        unfold searchRest
        rw [rowsN_at R.rows hp]
        dsimp only
        refine wpAny_bind (wpAny_holding ((nestedKind P w).eqBool hu xp.kind x.kind ?_))
        refine wpAny_bind (wpAny_setState_of ho hd R.fits (?_))
        dsimp only
        by_cases ek : p.2 = k
        · exact wp_if_pos (by simp [ek]) (wpAny_pure (yes (List.mem_map.mpr ⟨p, mp, ek⟩)))
        · refine wp_if_neg (by simp [ek]) (?_)
          try refine wpAny_bind (wpAny_pure (?_))
          rw [sameMem]
          dsimp only
          have live : t.slot (way t.mask x0 (c + q)) = .live i := slot_live R.tab.asc iq
          simp only [if_true, live, rowsN_at R.rows hp]
          refine wpAny_bind (wpAny_isSame_ref_self (wpAny_bind (wpAny_pure (?_))))
          simp only [if_true]
          refine wp_if_neg (by simp [ek]) (ih (c + (q + 1)) _ rfl (by omega) (by omega) fun i0 p0 e0 ek0 => ?_)
          obtain ⟨c', a1, a2, a3⟩ := later i0 p0 e0 ek0
          refine ⟨c', ?_, a2, a3⟩
          rcases Nat.lt_trichotomy c' (c + q) with z | z | z
          · exact absurd (by rw [hat i0 p0 e0, ek0, hx]) (before (c' - c) i0 (by omega) (by rw [shj, show c + (c' - c) = c' by omega]; exact a3))
          · rw [z] at a3
            have l2 := slot_live R.tab.asc a3
            rw [live] at l2
            injection l2 with l2
            rw [← l2, hp] at e0
            cases e0
            exact absurd ek0 ek
          · omega
      by_cases hl : t.led = true
      · refine wp_if_neg (by simp [hl]) (?_)
        try refine wpAny_bind (wpAny_pure (?_))
        exact go
      · refine wp_if_pos (by simp [hl]) (wpAny_bind (seen_n x (fun y hy => ?_) ?_))
        · obtain ⟨e, he, rfl⟩ := List.mem_map.mp hy
          have he1 : e ∈ es ∧ e.1 = x0 := by simpa using he
          have he2 : e ∈ es.toList := by simpa using he1.1
          rw [R.rows] at he2
          obtain ⟨p2, hp2, rfl⟩ := List.mem_map.mp he2
          exact ⟨p2.2, p2.1, rfl, R.keys p2 hp2⟩
        · refine wp_if_neg (by decide) (?_)
          try refine wpAny_bind (wpAny_pure (?_))
          exact go
    · rw [shj, show c + (K - c) = K by omega] at pr
      have pr2 : t.probe (fun i => (es[i]?.map (·.1)).getD 0) x0 (st.getD (t.probeStart x0)) = some (.empty (way t.mask x0 K) none) := by rw [est]; exact pr
      rw [pr2]
      dsimp only
      refine wpAny_pure (no fun hm => ?_)
      obtain ⟨p0, m0, ek0⟩ := List.mem_map.mp hm
      obtain ⟨i0, l0, e0⟩ := List.mem_iff_getElem.mp m0
      have e00 : L[i0]? = some p0 := by rw [List.getElem?_eq_getElem l0, e0]
      obtain ⟨c', a1, a2, a3⟩ := later i0 p0 e00 ek0
      exact before (c' - c) i0 (by omega) (by rw [shj, show c + (c' - c) = c' by omega]; exact a3) (by rw [hat i0 p0 e00, ek0, hx])
theorem look_n (R : SetN w s.heap a L es ep t) {b : Addr} {k : NestedKey} (x : IsN s.heap k b) (hu : A.units + 8 < cLine) {Q : SetFound → Shared → Prop} (yes : k ∈ L.map (·.2) → Q (.there none) s)
    (no : ∀ K, k ∉ L.map (·.2) → way t.mask (k.hash w) K ∉ t.place.toList → (∀ c, c < K → way t.mask (k.hash w) c ∈ t.place.toList) → Q (.free (way t.mask (k.hash w) K) false) s) :
    wpAny (model P w) A (setSearch a (.ref b) (k.hash w) true) Q E s := by
  have rm := R.room
  have bg := R.big
  obtain ⟨K, lK, nK, bK⟩ := R.tab.free (by rw [List.length_map]; omega) (k.hash w)
  have lK2 : K < 100000 := by
    have : 10 * SetTable.turns t.mask = 10 * (t.mask + 15) := rfl
    omega
  unfold setSearch
  refine find_n R x hu lK nK bK yes (fun h => no K h nK bK) 100000 0 none rfl (Nat.zero_le _) (by omega) fun i p e ek => ?_
  have q1 : (L.map fun p => p.2.hash w)[i]? = some (k.hash w) := by rw [List.getElem?_map, e, ← ek]; rfl
  have il : i < t.place.toList.length := by
    have := (List.getElem?_eq_some_iff.mp q1).1
    have := R.tab.len
    omega
  obtain ⟨c, lc, ec⟩ := R.tab.ahead nK q1 (List.getElem?_eq_getElem il)
  exact ⟨c, Nat.zero_le _, lc, by rw [List.getElem?_eq_getElem il, ec]⟩
end
end PP

namespace PP
open PySem PySem.Spec PyProof.Rows L2
section
variable {P : Program} {w : World} {A : Around} {E : Value → Shared → Prop} {s : Shared} {a : Addr} {L : List (Addr × NestedKey)} {es : Array (Int × Value)} {ep : Nat} {t : SetTable}
/-- the rows in another order -/
theorem rows_perm (e : es.toList = rowsN w L) {od : Array Nat} (pm : od.toList.Perm (List.range L.length)) :
    ∃ L2, (od.filterMap (es[·]?)).toList = rowsN w L2 ∧ L2.Perm L ∧ (L2.map fun p => p.2.hash w) = od.toList.map fun i => (es.map (·.1)).getD i 0 := by
  have hash_at : ∀ i (l : i < L.length), (es.map (·.1)).getD i 0 = (L[i]).2.hash w := fun i l => by
    have := rowsN_at e (List.getElem?_eq_getElem l)
    simp [Array.getD_eq_getD_getElem?, this]
  have part : ∀ l : List Nat, (∀ i ∈ l, i < L.length) → l.filterMap (fun i => es[i]?) = rowsN w (l.filterMap fun i => L[i]?) ∧ ((l.filterMap fun i => L[i]?).map fun p => p.2.hash w) = l.map fun i => (es.map (·.1)).getD i 0 := by
    intro l
    induction l with
    | nil => exact fun _ => ⟨rfl, rfl⟩
    | cons i l ih =>
      intro hl
      have il := hl i (by simp)
      obtain ⟨g1, g2⟩ := ih fun j hj => hl j (by simp [hj])
      have eL : L[i]? = some L[i] := List.getElem?_eq_getElem il
      rw [List.filterMap_cons_some (rowsN_at e eL), List.filterMap_cons_some eL, g1]
      exact ⟨rfl, by rw [List.map_cons, List.map_cons, g2, hash_at i il]⟩
  obtain ⟨g1, g2⟩ := part od.toList fun i hi => by simpa using pm.mem_iff.mp hi
  refine ⟨_, by rw [Array.toList_filterMap]; exact g1, ?_, g2⟩
  have all : ∀ n, n ≤ L.length → (List.range n).filterMap (fun i => L[i]?) = L.take n := by
    intro n
    induction n with
    | zero => exact fun _ => by simp
    | succ n ih =>
      intro l
      have eL : L[n]? = some L[n] := List.getElem?_eq_getElem l
      rw [List.range_succ, List.filterMap_append, ih (by omega), List.take_succ, eL, List.filterMap_cons_some eL]
      rfl
  have := pm.filterMap fun i => L[i]?
  rwa [all _ (Nat.le_refl _), List.take_length] at this
/-- the larger table -/
theorem relay_n {o : Obj} (ho : s.heap.get? a = some o) (hex : o.ExactSet) (hd : o.data = .set es ep t) (rows : es.toList = rowsN w L) (T : TabP t (L.map fun p => p.2.hash w)) (lm : L.length ≤ t.mask) (nd : (L.map (·.2)).Nodup) (keys : ∀ p ∈ L, IsN s.heap p.2 p.1)
    (pl : t.plain = true) (ld : w.params.followText "set-order" = true ∨ t.led = true) (few : 1 ≤ L.length ∧ L.length ≤ 2047) {Q : Unit → Shared → Prop}
    (hQ : ∀ h' L' es' ep' t', Heap.SameBut a s.heap h' → SetN w h' a L' es' ep' t' → L'.Perm L → Q () { s with heap := h' }) : wpAny (model P w) A (setRelay a (SetTable.grown L.length)) Q E s := by
  have eg : SetTable.grown L.length = L.length * 4 := by unfold SetTable.grown; rw [if_neg (by omega)]
  rw [eg]
  obtain ⟨k, ek, gt, g8, up⟩ := sizeAbove_ok (n := L.length * 4) (by omega)
  generalize hz : SetTable.sizeAbove (L.length * 4) = z at ek gt g8 up
  have z8 : z ≤ 8192 := by
    rcases up with u | u
    · omega
    · have z14 : z < 2 ^ 14 := by
        have : (2 : Nat) ^ 14 = 16384 := by decide
        omega
      rw [ek] at z14
      have kk : k < 14 := (Nat.pow_lt_pow_iff_right (by decide)).mp z14
      rw [ek]
      exact Nat.le_trans (Nat.pow_le_pow_right (by decide) (show k ≤ 13 by omega)) (by decide)
  have sz := rowsN_size rows
  obtain ⟨t2, od, er, pm, T2, em, el, eP⟩ := relaid_pw t (hs := es.map (·.1)) (wd := L.length * 4) (M := z - 1) (by rw [hz]) ⟨k, by omega⟩ (by rw [Array.size_map, sz]; omega)
  rw [Array.size_map, sz] at pm
  obtain ⟨L2, r1, r2, r3⟩ := rows_perm rows pm
  rw [← r3] at T2
  have sz2 := rowsN_size r1
  rw [r2.length_eq] at sz2
  rw [setRelay_eq]
  refine wpAny_bind (wpAny_setState_of ho hd (fits_n rows T lm) (?_))
  dsimp only
  refine wp_if_neg (by rw [hz, sizeLine_eq]; omega) (?_)
  try refine wpAny_bind (wpAny_pure (?_))
  rw [er]
  dsimp only
  refine wpAny_bind (wp_if_neg (by rw [sz2, sz]; simp) ?_)
  try refine wpAny_bind (wpAny_pure (?_))
  refine wpAny_pure (?_)
  dsimp only
  refine wpAny_storeSet_of ho hd (?_) (by rw [sz2, sizeLine_eq]; omega)
  have sb : Heap.SameBut a s.heap (s.heap.update a (Obj.putSet (od.filterMap (es[·]?)) t2)) := Heap.SameBut.update ..
  exact hQ _ L2 _ (ep + 1) t2 sb ⟨⟨_, store_at ho hd, ⟨hex.1, hex.2.1, hex.2.2⟩, rfl⟩, r1, T2, (r2.map (·.2)).nodup_iff.mpr nd, fun p m => (keys p (r2.mem_iff.mp m)).but ho hd sb, by rw [eP]; exact pl, by rw [el]; exact ld, by rw [r2.length_eq, em]; omega, by rw [em]; omega⟩ r2
/-- one more -/
theorem add_n (R : SetN w s.heap a L es ep t) {b : Addr} {k : NestedKey} (x : IsN s.heap k b) (hu : A.units + 8 < cLine) (few : L.length + 1 ≤ 2047) {Q : Bool → Shared → Prop}
    (hQ : ∀ g h' L' es' ep' t', Heap.SameBut a s.heap h' → SetN w h' a L' es' ep' t' → (k ∈ L.map (·.2) → L' = L) → (k ∉ L.map (·.2) → L'.Perm ((b, k) :: L)) → Q g { s with heap := h' }) :
    wpAny (model P w) A (setAddHashed a (.ref b) (k.hash w)) Q E s := by
  obtain ⟨o, ho, hex, hd⟩ := R.ob
  have sz := rowsN_size R.rows
  have rm := R.room
  have bg := R.big
  unfold setAddHashed
  refine wpAny_holding (?_)
  rw [show (100000 : Nat) = 99999 + 1 from rfl, setAddHashedIn_succ]
  refine wpAny_bind (wpAny_setState_of ho hd R.fits (?_))
  dsimp only
  refine wp_if_neg (by simp [byScan, Value.scannable]) (?_)
  try refine wpAny_bind (wpAny_pure (?_))
  refine wpAny_bind (look_n R x hu (fun m => wpAny_pure (hQ false s.heap L es ep t (Heap.SameBut.refl a s.heap) R (fun _ => rfl) fun z => absurd m z)) fun K nm nK bK => ?_)
  dsimp only
  refine wpAny_bind (wpAny_setState_of ho hd R.fits (?_))
  dsimp only
  cases hp : t.put (way t.mask (k.hash w) K) with
  | mk t1 n =>
  obtain ⟨en, nle, T1, em, el, eP, ef⟩ := R.tab.add nK bK hp
  dsimp only
  have pl1 : t1.plain = true := by rw [eP]; exact R.plain
  first
    | (refine wpAny_bind (wp_if_pos pl1 (hashBy_n 8 x.is x.nm x.dp ?_)))
    | (refine wp_if_pos pl1 (wpAny_bind (hashBy_n 8 x.is x.nm x.dp ?_)))
  simp only [if_true]
  rw [List.length_map] at nle ef
  have rows1 : (SetTable.insertAt es n (k.hash w, Value.ref b)).toList = rowsN w (L.take n ++ (b, k) :: L.drop n) := by
    rw [SetTable.toList_insertAt, R.rows]
    unfold rowsN
    rw [List.map_append, List.map_cons, List.map_take, List.map_drop]
  have pm := put_perm L n (b, k)
  have len1 : (L.take n ++ (b, k) :: L.drop n).length = L.length + 1 := pm.length_eq
  have hs1 : (L.take n ++ (b, k) :: L.drop n).map (fun p => p.2.hash w) = (L.map fun p => p.2.hash w).take n ++ k.hash w :: (L.map fun p => p.2.hash w).drop n := by
    rw [List.map_append, List.map_cons, List.map_take, List.map_drop]
  rw [← hs1] at T1
  have nd1 : ((L.take n ++ (b, k) :: L.drop n).map (·.2)).Nodup := (pm.map (·.2)).nodup_iff.mpr (by rw [List.map_cons]; exact List.nodup_cons.mpr ⟨nm, R.nd⟩)
  have sz1 := rowsN_size rows1
  rw [len1] at sz1
  generalize SetTable.insertAt es n (k.hash w, Value.ref b) = es1 at rows1 sz1 ⊢
  generalize L.take n ++ (b, k) :: L.drop n = L1 at pm len1 T1 nd1 rows1
  refine wpAny_bind (wpAny_storeSet_of ho hd (?_) (by rw [sz1, sizeLine_eq]; omega))
  have sb : Heap.SameBut a s.heap (s.heap.update a (Obj.putSet es1 t1)) := Heap.SameBut.update ..
  have ho1 := store_at (es' := es1) (t' := t1) ho hd
  generalize s.heap.update a (Obj.putSet es1 t1) = h1 at sb ho1 ⊢
  have keys1 : ∀ p ∈ L1, IsN h1 p.2 p.1 := fun p m => by
    rcases List.mem_cons.mp (pm.mem_iff.mp m) with e | m
    · rw [e]; exact x.but ho hd sb
    · exact (R.keys p m).but ho hd sb
  have ld1 : w.params.followText "set-order" = true ∨ t1.led = true := by rw [el]; exact R.led
  have full : t1.tooFull = decide ((L.length + 1) * 5 ≥ t.mask * 3) := by
    unfold SetTable.tooFull
    rw [ef, em]
  by_cases hf : t1.tooFull = true
  · have hf2 := hf
    rw [full, decide_eq_true_eq] at hf2
    rw [show es.size + 1 = L1.length by rw [sz, len1]]
    have goal : wpAny (model P w) A (setRelay a (SetTable.grown L1.length)) (fun _ s' => wpAny (model P w) A (pure true) Q E s') E { s with heap := h1 } :=
      relay_n (s := { s with heap := h1 }) ho1 ⟨hex.1, hex.2.1, hex.2.2⟩ rfl rows1 T1 (by rw [em, len1]; omega) nd1 keys1 pl1 ld1 ⟨by omega, by omega⟩ fun h2 L2 es2 ep2 t2 sb2 R2 pm2 => wpAny_pure (hQ true h2 L2 es2 ep2 t2 (sb.trans sb2) R2 (fun z => absurd z nm) fun _ => pm2.trans pm)
    first
      | exact wpAny_bind (wp_if_pos (by simp [hf]) goal)
      | exact wp_if_pos (by simp [hf]) (wpAny_bind goal)
  · have hf2 := hf
    rw [full, decide_eq_true_eq] at hf2
    have goal := hQ true h1 L1 es1 (ep + 1) t1 sb ⟨⟨_, ho1, ⟨hex.1, hex.2.1, hex.2.2⟩, rfl⟩, rows1, T1, nd1, keys1, pl1, ld1, by rw [len1, em]; omega, by rw [em]; exact bg⟩ (fun z => absurd z nm) fun _ => pm
    first
      | exact wp_if_neg (by simp [hf]) (wpAny_pure goal)
      | exact wpAny_bind (wp_if_neg (by simp [hf]) (wpAny_pure (wpAny_pure goal)))
theorem SetN.keep {h h' : Heap} (R : SetN w h a L es ep t) (ha : ∀ o, h.get? a = some o → h'.get? a = some o) (hk : ∀ p ∈ L, IsN h' p.2 p.1) : SetN w h' a L es ep t := by
  obtain ⟨o, ho, r⟩ := R.ob
  exact ⟨⟨o, ha o ho, r⟩, R.rows, R.tab, R.nd, hk, R.plain, R.led, R.room, R.big⟩
abbrev oSetN (w : World) : Obj := { cls := .type "set", dict := none, data := .set #[] 0 (.fresh 0 0 (!w.params.followText "set-order")) }
theorem setN_new {h : Heap} (ho : h.get? a = some (oSetN w)) : SetN w h a [] #[] 0 (.fresh 0 0 (!w.params.followText "set-order")) where
  ob := ⟨_, ho, ⟨rfl, rfl, rfl⟩, rfl⟩
  rows := rfl
  tab := ⟨List.Pairwise.nil, rfl, rfl, ⟨3, rfl⟩, fun x h => (by cases h), fun n x y e => (by simp at e)⟩
  nd := List.nodup_nil
  keys := fun p h => by cases h
  plain := rfl
  led := by
    cases e : w.params.followText "set-order" with
    | true => exact .inl rfl
    | false => exact .inr rfl
  room := by show 0 * 5 < 7 * 3; decide
  big := by show 7 ≤ 8191; decide
/-- what the set has of the first i -/
structure GotN (ks : List (Addr × NestedKey)) (i : Nat) (L : List (Addr × NestedKey)) : Prop where
  sub : ∀ p ∈ L, p ∈ ks.take i
  all : ∀ p ∈ ks.take i, p.2 ∈ L.map (·.2)
  len : L.length ≤ i
theorem GotN.next {ks L L' : List (Addr × NestedKey)} {i : Nat} {p : Addr × NestedKey} (g : GotN ks i L) (e : ks[i]? = some p) (same : p.2 ∈ L.map (·.2) → L' = L) (more : p.2 ∉ L.map (·.2) → L'.Perm (p :: L)) : GotN ks (i + 1) L' := by
  have tk := take_next e
  by_cases c : p.2 ∈ L.map (·.2)
  · rw [same c]
    refine ⟨fun q m => by rw [tk]; exact List.mem_append_left _ (g.sub q m), fun q m => ?_, Nat.le_succ_of_le g.len⟩
    rw [tk] at m
    rcases List.mem_append.mp m with z | z
    · exact g.all q z
    · rw [List.mem_singleton.mp z]; exact c
  · have pm := more c
    refine ⟨fun q m => ?_, fun q m => ?_, by have := pm.length_eq; have := g.len; simp at *; omega⟩
    · rw [tk]
      rcases List.mem_cons.mp (pm.mem_iff.mp m) with z | z
      · rw [z]; simp
      · exact List.mem_append_left _ (g.sub q z)
    · rw [(pm.map (·.2)).mem_iff, List.map_cons]
      rw [tk] at m
      rcases List.mem_append.mp m with z | z
      · exact List.mem_cons_of_mem _ (g.all q z)
      · rw [List.mem_singleton.mp z]; simp
/-- the loop of set(..) -/
theorem update_n {J : Addr} {fp wr : List Addr} {G : Array GenState → Array GenState → Prop} {n : Nat} {Pv : Nat → Value → Prop} {St : Nat → Shared → Prop} {R : Result → Shared → Prop} (Wk : WalksS P w A.in1 J fp wr G n Pv St) (D : Addr) (nD : D ∉ fp) (ks : List (Addr × NestedKey)) (en : n = ks.length) (few : ks.length + 1 ≤ 2047)
    (vals : ∀ i v, Pv i v → ∃ p, ks[i]? = some p ∧ v = .ref p.1) (h0 : Heap) (keys : ∀ p ∈ ks, IsN h0 p.2 p.1) (freeD : h0.get? D = none) (freeW : ∀ b ∈ wr, h0.get? b = none) (hu : A.in1.units + 8 < cLine) : ∀ (k i : Nat) (s : Shared), n - i = k → i ≤ n → St i s →
      (∀ b o, h0.get? b = some o → s.heap.get? b = some o) → (∃ L es ep t, SetN w s.heap D L es ep t ∧ GotN ks i L) →
      (∀ s' L es ep t, Moved (D :: wr) G s s' → SetN w s'.heap D L es ep t → GotN ks n L → (∀ b o, h0.get? b = some o → s'.heap.get? b = some o) → R (.ok (.ret .none)) s') → codeAny (model P w) A (.builtin "set.update.loop" ⟨[.ref D, .ref J], []⟩) R s := by
  have wider : ∀ b ∈ wr, b ∈ D :: wr := fun b hb => List.mem_cons_of_mem _ hb
  have nDw : D ∉ wr := fun h => nD (Wk.sub _ h)
  have kept : ∀ {s s' : Shared}, Moved wr G s s' → (∀ b o, h0.get? b = some o → s.heap.get? b = some o) → ∀ b o, h0.get? b = some o → s'.heap.get? b = some o := fun mv kp b o e =>
    mv.heap b o (fun hb => by rw [freeW b hb] at e; cases e) (kp b o e)
  intro k
  induction k with
  | zero =>
    intro i s ek li st0 kp ⟨L, es, ep, t, rL, g⟩ goal
    obtain rfl : i = n := by omega
    refine codeAny_builtin F.entry_set_update_loop (?_)
    rw [Around.under_plainId F.plain_set_update_loop _]
    show wpAny _ _ (pyNext (.ref J) >>= _) _ _ s
    refine wpAny_bind (Wk.done s _ _ st0 fun s2 mv => ?_)
    show wpAny _ _ (ret Value.none) _ _ s2
    have kp2 := kept mv kp
    exact wpAny_pure (goal s2 L es ep t (mv.mono wider) (rL.keep (fun o e => mv.heap D o nDw e) fun p hp => (keys p (List.mem_of_mem_take (g.sub p hp))).stay kp2) g kp2)
  | succ k ih =>
    intro i s ek li st0 kp ⟨L, es, ep, t, rL, g⟩ goal
    have lt : i < n := by omega
    refine codeAny_builtin F.entry_set_update_loop (?_)
    rw [Around.under_plainId F.plain_set_update_loop _]
    show wpAny _ _ (pyNext (.ref J) >>= _) _ _ s
    refine wpAny_bind (Wk.item i s _ _ lt st0 fun v s2 pv st1 mv => ?_)
    obtain ⟨p, hp, rfl⟩ := vals i v pv
    have kp2 := kept mv kp
    have rL2 : SetN w s2.heap D L es ep t := rL.keep (fun o e => mv.heap D o nDw e) fun q hq => (keys q (List.mem_of_mem_take (g.sub q hq))).stay kp2
    have tx : IsN s2.heap p.2 p.1 := (keys p (List.mem_of_getElem? hp)).stay kp2
    show wpAny _ _ (holding [Value.ref p.1] (setAdd D (.ref p.1)) >>= _) _ _ s2
    refine wpAny_bind (wpAny_holding (?_))
    unfold setAdd
    refine wpAny_holding (wpAny_bind ((nestedKind P w).pyHash hu tx.kind (?_)))
    have gl := g.len
    refine add_n (s := { s2 with toks := s2.toks + p.2.draws }) rL2 tx hu (by omega) fun b h3 L3 es3 ep3 t3 sb rL3 old new => ?_
    have g3 : GotN ks (i + 1) L3 := g.next hp old new
    have nb : ∀ {b : Addr}, b ∈ fp → b ≠ D := fun hb z => nD (z ▸ hb)
    have kp3 : ∀ b o, h0.get? b = some o → h3.get? b = some o := fun b o e => (sb.2 b (fun z => by rw [z, freeD] at e; cases e)).trans (kp2 b o e)
    refine wpAny_pure ⟨plainId_quiet F.plain_set_update_loop _, ih (i + 1) _ (by omega) lt (Wk.frame _ s2 _ _ st1 (Nat.le_add_right _ _) fun b hb o e => ?_) kp3 ⟨L3, es3, ep3, t3, rL3, g3⟩ fun s4 L4 es4 ep4 t4 mv4 rL4 g4 kp4 => ?_⟩
    · rw [sb.2 b (nb hb)]; exact e
    · refine goal s4 L4 es4 ep4 t4 (Moved.trans Wk.gtrans ((mv.mono wider).then_heap (Nat.le_add_right _ _) fun b o hb e => ?_) mv4) rL4 g4 kp4
      have hbD : b ≠ D := fun z => hb (by rw [z]; exact List.mem_cons_self)
      rw [sb.2 b hbD]; exact e
end
end PP

namespace PP
open PySem L2
open Res (ok exc bad)
/-! ### texts -/
def mkS (l : List Nat) : Str := ⟨l.toArray⟩
def sg (c : Nat) : D := .str ⟨#[c]⟩
abbrev tx (l : List Nat) : D := .str (mkS l)
theorem mkS_length (l : List Nat) : (mkS l).length = l.length := by show l.toArray.size = _; simp
theorem mkS_cps (l : List Nat) : (mkS l).cps.toList = l := by show l.toArray.toList = _; simp
theorem mkS_app (a b : List Nat) : mkS a ++ mkS b = mkS (a ++ b) := by
  show (⟨a.toArray ++ b.toArray⟩ : Str) = _
  simp [mkS]
theorem mkS_inj {a b : List Nat} : mkS a = mkS b ↔ a = b := ⟨fun h => by
  have e := congrArg (fun z : Str => z.cps.toList) h
  simpa [mkS_cps] using e, fun h => by rw [h]⟩
theorem sg_eq (c : Nat) : sg c = tx [c] := rfl
theorem signs_mkS (l : List Nat) : signs (mkS l) = l.map sg := by
  unfold signs
  rw [mkS_cps]
  rfl
theorem items_tx {l : List Nat} (h : l.length ≤ 1000000) : items (tx l) = some (l.map sg) := by
  show (if (mkS l).cps.size ≤ 1000000 then some (signs (mkS l)) else none) = _
  rw [if_pos (by show l.toArray.size ≤ _; simpa using h), signs_mkS]
theorem size1000 : 4000000 ≤ sizeLine := big_line
theorem dLen_tx {l : List Nat} (h : l.length ≤ 1000000) : dLen [tx l] = some (.int l.length) := by
  show (if (mkS l).length ≤ sizeLine then some (D.int (mkS l).length) else none) = _
  rw [mkS_length, if_pos (by have := size1000; omega)]
theorem dAdd_tx {a b : List Nat} (h : a.length + b.length ≤ 1000000) : dAdd (tx a) (tx b) = some (tx (a ++ b)) := by
  show (if (mkS a).length + (mkS b).length ≤ sizeLine then some (D.str (mkS a ++ mkS b)) else none) = _
  rw [mkS_length, mkS_length, if_pos (by have := size1000; omega), mkS_app]
theorem dEq_tx (a b : List Nat) : dEq (tx a) (tx b) = some (.bl (decide (a = b))) := by
  show some (D.bl (decide (mkS a = mkS b))) = _
  simp only [mkS_inj]
theorem dNe_tx (a b : List Nat) : dNe (tx a) (tx b) = some (.bl (!decide (a = b))) := by
  unfold dNe
  rw [dEq_tx]
theorem atI_nat {α : Type} (xs : List α) (i : Nat) : L2.atI xs (i : Int) = xs[i]? := by
  unfold L2.atI L2.ixN
  by_cases h : i < xs.length
  · rw [if_pos (by omega), if_pos (by omega)]
    show xs[((i : Int)).toNat]? = _
    rw [Int.toNat_natCast]
  · rw [if_pos (by omega), if_neg (by omega)]
    rw [List.getElem?_eq_none (by omega)]
    rfl
theorem atI_int {α : Type} (xs : List α) (i : Int) (h0 : 0 ≤ i) : L2.atI xs i = xs[i.toNat]? := by
  obtain ⟨n, rfl⟩ := Int.eq_ofNat_of_zero_le h0
  rw [atI_nat]
  rfl
theorem dIx_tx {l : List Nat} {i : Int} (h : l.length ≤ 1000000) (h0 : 0 ≤ i) : dIx (tx l) (.int i) = (l[i.toNat]?).map sg := by
  show (if (mkS l).length ≤ sizeLine then (L2.atI (mkS l).cps.toList i).map (fun c => D.str ⟨#[c]⟩) else none) = _
  rw [mkS_length, if_pos (by have := size1000; omega), mkS_cps, atI_int _ _ h0]
  rfl
theorem dIx_tup {l : List D} {i : Int} (h0 : 0 ≤ i) : dIx (.tup l) (.int i) = l[i.toNat]? := atI_int _ _ h0
theorem dIx_lst {l : List D} {i : Int} (h0 : 0 ≤ i) : dIx (.lst l) (.int i) = l[i.toNat]? := atI_int _ _ h0
theorem sIx_pos (n d : Nat) (k : Int) (h : 0 ≤ k) : HT.sIx n d (some k) = min k.toNat n := by
  obtain ⟨m, rfl⟩ := Int.eq_ofNat_of_zero_le h
  rw [HT.sIx_nat]
  rfl
theorem cutD_to {l : List D} {k : Int} (h : 0 ≤ k) : cutD l none (some k) = l.take k.toNat := by
  unfold cutD
  rw [HT.sIx_none, sIx_pos _ _ _ h, List.drop_zero, Nat.sub_zero]
  rcases Nat.le_total k.toNat l.length with q | q
  · rw [Nat.min_eq_left q]
  · rw [Nat.min_eq_right q, List.take_length, List.take_of_length_le q]
theorem cutD_from {l : List D} {k : Int} (h : 0 ≤ k) : cutD l (some k) none = l.drop k.toNat := by
  unfold cutD
  rw [HT.sIx_none, sIx_pos _ _ _ h]
  rcases Nat.le_total k.toNat l.length with q | q
  · rw [Nat.min_eq_left q, List.take_of_length_le (by rw [List.length_drop]; omega)]
  · rw [Nat.min_eq_right q, Nat.sub_self, List.take_zero, List.drop_of_length_le q]
theorem cutD_both {l : List D} {i k : Int} (h : 0 ≤ i) (h2 : 0 ≤ k) : cutD l (some i) (some k) = (l.drop i.toNat).take (k.toNat - i.toNat) := by
  unfold cutD
  rw [sIx_pos _ _ _ h, sIx_pos _ _ _ h2]
  rcases Nat.le_total i.toNat l.length with q | q
  · rw [Nat.min_eq_left q]
    rcases Nat.le_total k.toNat l.length with q2 | q2
    · rw [Nat.min_eq_left q2]
    · rw [Nat.min_eq_right q2, List.take_of_length_le (by rw [List.length_drop]; omega), List.take_of_length_le (by rw [List.length_drop]; omega)]
  · rw [Nat.min_eq_right q, List.drop_of_length_le q, List.drop_of_length_le (Nat.le_refl _), List.take_nil, List.take_nil]
theorem cutS_to {l : List Nat} {k : Int} (h : 0 ≤ k) : cutS (mkS l) none (some k) = mkS (l.take k.toNat) := by
  unfold cutS
  rw [mkS_length, mkS_cps, HT.sIx_none, sIx_pos _ _ _ h, List.drop_zero, Nat.sub_zero]
  rcases Nat.le_total k.toNat l.length with q | q
  · rw [Nat.min_eq_left q]; rfl
  · rw [Nat.min_eq_right q, List.take_length, List.take_of_length_le q]; rfl
theorem cutS_from {l : List Nat} {k : Int} (h : 0 ≤ k) : cutS (mkS l) (some k) none = mkS (l.drop k.toNat) := by
  unfold cutS
  rw [mkS_length, mkS_cps, HT.sIx_none, sIx_pos _ _ _ h]
  rcases Nat.le_total k.toNat l.length with q | q
  · rw [Nat.min_eq_left q, List.take_of_length_le (by rw [List.length_drop]; omega)]; rfl
  · rw [Nat.min_eq_right q, Nat.sub_self, List.take_zero, List.drop_of_length_le q]; rfl
theorem dSl_txTo {l : List Nat} {k : Int} (h : l.length ≤ 1000000) (h0 : 0 ≤ k) : dSl (tx l) none (some k) = some (tx (l.take k.toNat)) := by
  show (if (mkS l).length ≤ sizeLine then some (D.str (cutS (mkS l) none (some k))) else none) = _
  rw [mkS_length, if_pos (by have := size1000; omega), cutS_to h0]
theorem dSl_txFrom {l : List Nat} {k : Int} (h : l.length ≤ 1000000) (h0 : 0 ≤ k) : dSl (tx l) (some k) none = some (tx (l.drop k.toNat)) := by
  show (if (mkS l).length ≤ sizeLine then some (D.str (cutS (mkS l) (some k) none)) else none) = _
  rw [mkS_length, if_pos (by have := size1000; omega), cutS_from h0]
theorem runF_rt {n k : Nat} {s : Sls → Fl} {ds : List D} {d : D} (h : s (startS n ds) = .rt d) (hk : ds.length = k := by rfl) : runF n k s ds = ok d := by
  unfold runF
  rw [if_pos hk, h]
theorem runF_nx {n k : Nat} {s : Sls → Fl} {ds : List D} {ρ : Sls} (h : s (startS n ds) = .nx ρ) (hk : ds.length = k := by rfl) : runF n k s ds = ok .non := by
  unfold runF
  rw [if_pos hk, h]
theorem runF_exc {n k : Nat} {s : Sls → Fl} {ds : List D} {c : Str} {ρ : Sls} (h : s (startS n ds) = .exc c ρ) (hk : ds.length = k := by rfl) : runF n k s ds = exc c := by
  unfold runF
  rw [if_pos hk, h]
/-! ### joining -/
theorem asSs_tx : ∀ (ls : List (List Nat)), asSs (ls.map tx) = some (ls.map mkS)
  | [] => rfl
  | l :: r => by
    show (asSs (r.map tx)).map (fun bs => mkS l :: bs) = _
    rw [asSs_tx r]
    rfl
theorem join_nil (ls : List (List Nat)) : Txt.join (mkS []) (ls.map mkS) = mkS ls.flatten := by
  have e : Txt.join (mkS []) (ls.map mkS) = mkS (TL.joinL [] ls) := SX.join_S [] ls
  rw [e]
  congr 1
  clear e
  induction ls with
  | nil => rfl
  | cons a r ih => cases r with
    | nil => simp [TL.joinL]
    | cons b q => show a ++ ([] ++ TL.joinL [] (b :: q)) = _; rw [ih]; rfl
theorem dJoin_tx {ls : List (List Nat)} (h : (ls.map List.length).sum ≤ 1000000) : dJoin (tx []) (.lst (ls.map tx)) = some (tx ls.flatten) := by
  show ((asSs (ls.map tx)).bind fun ys => if (ys.map (·.length)).sum + ys.length * (mkS []).length ≤ 16777216 then some (D.str (Txt.join (mkS []) ys)) else none) = _
  rw [asSs_tx]
  show (if ((ls.map mkS).map (·.length)).sum + (ls.map mkS).length * 0 ≤ 16777216 then some (D.str (Txt.join (mkS []) (ls.map mkS))) else none) = _
  have e : (ls.map mkS).map (·.length) = ls.map List.length := by
    rw [List.map_map]
    exact List.map_congr_left fun x _ => mkS_length x
  rw [e, if_pos (by omega), join_nil]
/-! ### loops -/
theorem forL_inv {step : D → Sls → Fl} {R : Nat → Sls → Prop} : ∀ {xs : List D} {i : Nat} {ρ : Sls}, (∀ j x ρ, xs[j]? = some x → R (i + j) ρ → ∃ ρ', (step x ρ = .nx ρ' ∨ step x ρ = .ct ρ') ∧ R (i + j + 1) ρ') → R i ρ → ∃ ρ', forL step xs ρ = .nx ρ' ∧ R (i + xs.length) ρ'
  | [], i, ρ, _, h0 => ⟨ρ, rfl, h0⟩
  | x :: xs, i, ρ, h, h0 => by
    obtain ⟨ρ1, e1, r1⟩ := h 0 x ρ rfl h0
    obtain ⟨ρ2, e2, r2⟩ := forL_inv (step := step) (R := R) (xs := xs) (i := i + 1) (ρ := ρ1) (fun j y ρ hy hr => by
      have := h (j + 1) y ρ (by simpa using hy) (by rw [show i + (j + 1) = i + 1 + j by omega]; exact hr)
      rw [show i + (j + 1) + 1 = i + 1 + j + 1 by omega] at this
      exact this) r1
    refine ⟨ρ2, ?_, by rw [show i + (x :: xs).length = i + 1 + xs.length by simp; omega]; exact r2⟩
    unfold forL
    rcases e1 with e1 | e1 <;> rw [e1] <;> exact e2
/-- the invariant speaks of what is left -/
theorem forL_go {α : Type} {step : D → Sls → Fl} {R : α → Sls → Prop} {f : α → D → α} : ∀ {xs : List D} {a : α} {ρ : Sls}, (∀ x ∈ xs, ∀ a ρ, R a ρ → ∃ ρ', (step x ρ = .nx ρ' ∨ step x ρ = .ct ρ') ∧ R (f a x) ρ') → R a ρ → ∃ ρ', forL step xs ρ = .nx ρ' ∧ R (xs.foldl f a) ρ'
  | [], a, ρ, _, h0 => ⟨ρ, rfl, h0⟩
  | x :: xs, a, ρ, h, h0 => by
    obtain ⟨ρ1, e1, r1⟩ := h x (by simp) a ρ h0
    obtain ⟨ρ2, e2, r2⟩ := forL_go (step := step) (R := R) (f := f) (xs := xs) (fun y hy => h y (by simp [hy])) r1
    refine ⟨ρ2, ?_, r2⟩
    unfold forL
    rcases e1 with e1 | e1 <;> rw [e1] <;> exact e2
theorem forL_all {step : D → Sls → Fl} {R : Sls → Prop} {xs : List D} {ρ : Sls} (h : ∀ x ∈ xs, ∀ ρ, R ρ → ∃ ρ', (step x ρ = .nx ρ' ∨ step x ρ = .ct ρ') ∧ R ρ') (h0 : R ρ) : ∃ ρ', forL step xs ρ = .nx ρ' ∧ R ρ' := by
  obtain ⟨ρ', e, r⟩ := forL_go (α := Unit) (R := fun _ => R) (f := fun _ _ => ()) (a := ()) (fun x hx _ ρ hr => h x hx ρ hr) h0
  exact ⟨ρ', e, r⟩
theorem compL_map {step : D → Res (Option D)} {g : D → Option D} : ∀ {xs : List D}, (∀ x ∈ xs, step x = ok (g x)) → compL step xs = ok (xs.filterMap g)
  | [], _ => rfl
  | x :: xs, h => by
    show ((step x).quiet >>= fun r => compL step xs >>= fun ys => ok (match r with | some y => y :: ys | none => ys)) = _
    rw [h x (by simp), compL_map (xs := xs) (g := g) fun y hy => h y (by simp [hy])]
    simp only [Res.quiet_ok, Res.ok_bind, List.filterMap_cons]
    cases g x <;> rfl
theorem compL_of {α : Type} {step : D → Res (Option D)} {emb : α → D} {g : α → Option D} {as : List α} (h : ∀ a ∈ as, step (emb a) = ok (g a)) : compL step (as.map emb) = ok (as.filterMap g) := by
  induction as with
  | nil => rfl
  | cons x xs ih =>
    show ((step (emb x)).quiet >>= fun r => compL step (xs.map emb) >>= fun ys => ok (match r with | some y => y :: ys | none => ys)) = _
    rw [h x (by simp), ih fun y hy => h y (by simp [hy])]
    simp only [Res.quiet_ok, Res.ok_bind, List.filterMap_cons]
    cases g x <;> rfl
theorem compL_all {α : Type} {step : D → Res (Option D)} {emb : α → D} {g : α → D} {as : List α} (h : ∀ a ∈ as, step (emb a) = ok (some (g a))) : compL step (as.map emb) = ok (as.map g) := by
  rw [compL_of (g := fun a => some (g a)) h]
  congr 1
  induction as with
  | nil => rfl
  | cons x xs ih => rw [List.filterMap_cons]; simp only [List.map_cons]; rw [ih fun y hy => h y (by simp [hy])]
theorem rangeD_map (lo : Int) (n : Nat) : rangeD lo n = (List.range n).map fun i : Nat => D.int (lo + (i : Int)) := rfl
theorem asBs_map {α : Type} (p : α → Bool) : ∀ l : List α, asBs (l.map fun a => D.bl (p a)) = some (l.map p)
  | [] => rfl
  | a :: r => by
    show ((some (p a)).bind fun b => (asBs (r.map fun a => D.bl (p a))).map fun bs => b :: bs) = _
    rw [asBs_map p r]
    rfl
theorem dAll_map {α : Type} (p : α → Bool) (l : List α) : dAll [.lst (l.map fun a => D.bl (p a))] = some (.bl (l.all p)) := by
  show (asBs (l.map fun a => D.bl (p a))).map (fun bs => D.bl (bs.all id)) = _
  rw [asBs_map, Option.map_some, List.all_map]
  rfl
theorem dAny_map {α : Type} (p : α → Bool) (l : List α) : dAny [.lst (l.map fun a => D.bl (p a))] = some (.bl (l.any p)) := by
  show (asBs (l.map fun a => D.bl (p a))).map (fun bs => D.bl (bs.any id)) = _
  rw [asBs_map, Option.map_some, List.any_map]
  rfl
/-! ### pairs of numbers -/
abbrev pt (p : Int × Int) : D := .tup [.int p.1, .int p.2]
def pq (p : Int × Int) : PyData := .tuple [.int p.1, .int p.2]
theorem toPD_pt (p : Int × Int) : toPD (pt p) = some (pq p) := by simp [toPD, toPDs, pq]
/-- can be looked at deeply: n deep at most -/
def Sh (n : Nat) (d : PyData) : Prop := d.canLay0 = true ∧ d.depth ≤ n
theorem Sh.shaped {n : Nat} {d : PyData} (h : Sh n d) (hn : n ≤ 64 := by decide) : SeqAt.shaped d = true := by
  show (d.canLay0 && decide (d.depth ≤ 64)) = true
  rw [h.1, decide_eq_true (Nat.le_trans h.2 hn)]
  rfl
theorem sh_all {n : Nat} : ∀ {ds : List PyData}, (∀ d ∈ ds, Sh n d) → PyData.canLayAll0 ds = true ∧ PyData.depthAll ds ≤ n
  | [], _ => ⟨by simp [PyData.canLayAll0], by simp [PyData.depthAll]⟩
  | d :: ds, h => by
    obtain ⟨a, b⟩ := sh_all (ds := ds) fun x hx => h x (by simp [hx])
    obtain ⟨c, e⟩ := h d (by simp)
    exact ⟨by simp [PyData.canLayAll0, a, c], by simp only [PyData.depthAll]; exact Nat.max_le.mpr ⟨e, b⟩⟩
theorem Sh.tup {n : Nat} {ds : List PyData} (h : ∀ d ∈ ds, Sh n d) : Sh (n + 1) (.tuple ds) := by
  obtain ⟨a, b⟩ := sh_all h
  exact ⟨by simpa [PyData.canLay0] using a, by simpa [PyData.depth] using b⟩
theorem Sh.lst {n : Nat} {ds : List PyData} (h : ∀ d ∈ ds, Sh n d) : Sh (n + 1) (.list ds) := by
  obtain ⟨a, b⟩ := sh_all h
  exact ⟨by simpa [PyData.canLay0] using a, by simpa [PyData.depth] using b⟩
theorem Sh.int {n : Nat} (i : Int) : Sh n (.int i) := ⟨by simp [PyData.canLay0], by simp [PyData.depth]⟩
theorem sh_pq (p : Int × Int) : Sh 1 (pq p) := Sh.tup fun d hd => by
  simp only [List.mem_cons, List.not_mem_nil, or_false] at hd
  rcases hd with e | e <;> rw [e] <;> exact .int _
theorem shaped_pq (p : Int × Int) : SeqAt.shaped (pq p) = true := (sh_pq p).shaped
theorem eqv_pq (p q : Int × Int) : PyData.eqv (pq p) (pq q) = decide (p = q) := by
  obtain ⟨a, b⟩ := p
  obtain ⟨c, d⟩ := q
  simp only [pq, PyData.eqv, PyData.eqvAll, Bool.and_true, Prod.mk.injEq]
  by_cases h1 : a = c <;> by_cases h2 : b = d <;> simp [h1, h2]
theorem dEq_pt (p q : Int × Int) : dEq (pt p) (pt q) = some (.bl (decide (p = q))) := by
  show (deepEq (pt p) (pt q)).map D.bl = _
  unfold deepEq
  rw [toPD_pt, toPD_pt]
  simp only [Option.bind_some, shaped_pq, Bool.and_self, if_true, eqv_pq, Option.map_some]
theorem dNe_pt (p q : Int × Int) : dNe (pt p) (pt q) = some (.bl (!decide (p = q))) := by
  unfold dNe
  rw [dEq_pt]
theorem toPDs_pt : ∀ ps : List (Int × Int), toPDs (ps.map pt) = some (ps.map pq)
  | [] => by simp [toPDs]
  | p :: r => by
    simp only [List.map_cons, toPDs, toPDs_pt r, Option.bind_some, Option.map_some]
    rw [toPD_pt]
    rfl
theorem shaped_pqs (ps : List (Int × Int)) : SeqAt.shaped (.list (ps.map pq)) = true := (Sh.lst (n := 1) fun d hd => by
  obtain ⟨p, _, rfl⟩ := List.mem_map.mp hd
  exact sh_pq p).shaped
theorem dIn_pt (p : Int × Int) (ps : List (Int × Int)) : dIn (pt p) (.lst (ps.map pt)) = some (.bl (decide (p ∈ ps))) := by
  show (inSeq (pt p) (ps.map pt)).map D.bl = _
  unfold inSeq
  rw [toPD_pt, toPDs_pt]
  simp only [Option.bind_some, shaped_pq, shaped_pqs, Bool.and_self, if_true, Option.map_some]
  congr 2
  rw [List.any_map]
  by_cases h : p ∈ ps
  · rw [decide_eq_true h, List.any_eq_true]
    exact ⟨p, h, by simp [eqv_pq]⟩
  · rw [decide_eq_false h, List.any_eq_false]
    intro x hx
    simp only [Function.comp, eqv_pq, decide_eq_true_eq]
    exact fun e => h (e ▸ hx)
end PP

namespace PP
open PySem L2
open Res (ok exc bad)
/-- script many draws seed cell number k -/
noncomputable def b__law_draws : Sls → Fl :=
    (sSeq (sSetO 2 (mLst []))
    (sSeq (sSet 3 (mC (.int 7)))
    (sSeq (sFor (mIt (mSl dSl (mVar 0) mNoPart (mPart (mC (.int 63))))) (tgName 4)
    (sSeq (sSet 5 (mBI dAbs [(mVar 4)]))
    (sSeq (sSet 3 (mOp2 dMod (mBI dInt [(mOp2 dAdd (mOp2 dAdd (mOp2 dMul (mVar 3) (mC (.int 48271))) (mVar 5)) (mC (.int 11)))]) (mC (.int 2147483647))))
    (sIf (mT (mOp2 dGe (mVar 5) (mOp2 dPow (mC (.int 10)) (mC (.int 18))))) (sFor (mRng rng1 [(mC (.int 60))]) (tgName 6)
    (sIf (mT (mOp2 dGt (mVar 5) (mC (.int 0)))) (sSeq (sApp 2 (mOp2 dMod (mBI dInt [(mVar 5)]) (mC (.int 1009))))
    (sSet 5 (mOp2 dDiv (mVar 5) (mC (.int 1009))))) sNx)) (sApp 2 (mOp2 dMod (mOp2 dDiv (mBI dInt [(mOp2 dAdd (mOp2 dMul (mVar 3) (mC (.int 16807))) (mC (.int 5)))]) (mC (.int 3))) (mC (.int 65521))))))))
    (sSeq (sFor (mRng rng1 [(mVar 1)]) (tgName 6)
    (sIf (mT (mOp2 dLt (mBI dLen [(mVarB 2)]) (mVar 1))) (sSeq (sSet 3 (mOp2 dMod (mBI dInt [(mOp2 dAdd (mOp2 dAdd (mOp2 dMul (mVar 3) (mC (.int 69621))) (mVar 6)) (mC (.int 1)))]) (mC (.int 2147483647))))
    (sApp 2 (mOp2 dMod (mOp2 dDiv (mBI dInt [(mVar 3)]) (mC (.int 7))) (mC (.int 65521))))) sNx))
    (sRet (mSl dSl (mVarB 2) mNoPart (mPart (mVar 1))))))))
noncomputable def F__law_draws : List D → Res D := runF 7 2 b__law_draws
/-- draws high wide found row draw k -/
noncomputable def b__law_rows : Sls → Fl :=
    (sSeq (sSetO 3 (mLst []))
    (sSeq (sFor (mRng rng1 [(mVar 1)]) (tgName 4)
    (sSeq (sSet 5 (mBI dInt [(mOp2 dIx (mVar 0) (mOp2 dAdd (mC (.int 1)) (mOp2 dMod (mVar 4) (mOp2 dSub (mBI dLen [(mVar 0)]) (mC (.int 1))))))]))
    (sApp 3 (mM1 dJoin (mC (.str "")) (mLc (mRng rng1 [(mVar 2)]) [6] (tgName 6) mYes (mIf (mT (mOp2 dLt (mOp2 dMod (mOp2 dDiv (mBI dInt [(mOp2 dAdd (mOp2 dAdd (mOp2 dMul (mVar 5) (mOp2 dAdd (mVar 6) (mC (.int 3)))) (mOp2 dMul (mVar 6) (mC (.int 37)))) (mOp2 dMul (mVar 4) (mC (.int 11))))]) (mC (.int 7))) (mC (.int 8))) (mOp2 dMod (mBI dInt [(mOp2 dIx (mVar 0) (mC (.int 0)))]) (mC (.int 4))))) (mC (.str "#")) (mC (.str "."))))))))
    (sRet (mBI dTuple [(mOp2 dAdd (mLst [(mOp2 dAdd (mC (.str ".")) (mSl dSl (mOp2 dIx (mVarB 3) (mC (.int 0))) (mPart (mC (.int 1))) mNoPart))]) (mSl dSl (mVarB 3) (mPart (mC (.int 1))) mNoPart))]))))
noncomputable def F__law_rows : List D → Res D := runF 7 3 b__law_rows
/-- rows found row k -/
noncomputable def b__law_cells : Sls → Fl :=
    (sSeq (sSet 1 (mLst []))
    (sSeq (sFor (mRng rng1 [(mBI dLen [(mVar 0)])]) (tgName 2)
    (sSet 1 (mOp2 dAdd (mVar 1) (mLc (mRng rng1 [(mBI dLen [(mOp2 dIx (mVar 0) (mC (.int 0)))])]) [3] (tgName 3) (mT (mOp2 dEq (mOp2 dIx (mOp2 dIx (mVar 0) (mVar 2)) (mVar 3)) (mC (.str ".")))) (mTup [(mVar 2), (mVar 3)])))))
    (sRet (mBI dTuple [(mVar 1)]))))
noncomputable def F__law_cells : List D → Res D := runF 4 1 b__law_cells
/-- rows cell found step there -/
noncomputable def b__law_near : Sls → Fl :=
    (sSeq (sSetO 2 (mLst []))
    (sSeq (sFor (mIt (mLst [(mTup [(mOp1 dNeg (mC (.int 1))), (mC (.int 0))]), (mTup [(mC (.int 0)), (mOp1 dNeg (mC (.int 1)))]), (mTup [(mC (.int 0)), (mC (.int 1))]), (mTup [(mC (.int 1)), (mC (.int 0))])])) (tgName 3)
    (sSeq (sSet 4 (mTup [(mOp2 dAdd (mOp2 dIx (mVar 1) (mC (.int 0))) (mOp2 dIx (mVar 3) (mC (.int 0)))), (mOp2 dAdd (mOp2 dIx (mVar 1) (mC (.int 1))) (mOp2 dIx (mVar 3) (mC (.int 1))))]))
    (sIf (mAnd (mT (mChain dLe dLt (mC (.int 0)) (mOp2 dIx (mVar 4) (mC (.int 0))) (mBI dLen [(mVar 0)]))) (mAnd (mT (mChain dLe dLt (mC (.int 0)) (mOp2 dIx (mVar 4) (mC (.int 1))) (mBI dLen [(mOp2 dIx (mVar 0) (mC (.int 0)))]))) (mT (mOp2 dEq (mOp2 dIx (mOp2 dIx (mVar 0) (mOp2 dIx (mVar 4) (mC (.int 0)))) (mOp2 dIx (mVar 4) (mC (.int 1)))) (mC (.str ".")))))) (sApp 2 (mVar 4)) sNx)))
    (sFrz 2 (sRet (mVar 2)))))
noncomputable def F__law_near : List D → Res D := runF 5 2 b__law_near
theorem dMul_r {i j : Int} (h1 : -(2 ^ 64) < j) (h2 : j < 2 ^ 64) : dMul (.int i) (.int j) = some (.int (i * j)) := by
  show (if mulOk i j = true then some (D.int (i * j)) else none) = _
  rw [if_pos]
  exact decide_eq_true (.inr ⟨h1, h2⟩)
theorem dMul_l {i j : Int} (h1 : -(2 ^ 64) < i) (h2 : i < 2 ^ 64) : dMul (.int i) (.int j) = some (.int (i * j)) := by
  show (if mulOk i j = true then some (D.int (i * j)) else none) = _
  rw [if_pos]
  exact decide_eq_true (.inl ⟨h1, h2⟩)
theorem dMod_i {i j : Int} (h : 0 < j) : dMod (.int i) (.int j) = some (.int (i % j)) := if_pos h
theorem dDiv_i {i j : Int} (h : 0 < j) (h2 : j < 1073741824) : dDiv (.int i) (.int j) = some (.int (i / j)) := if_pos ⟨h, h2⟩
@[simp] theorem dAdd_i (i j : Int) : dAdd (.int i) (.int j) = some (.int (i + j)) := id rfl
@[simp] theorem dSub_i (i j : Int) : dSub (.int i) (.int j) = some (.int (i - j)) := id rfl
@[simp] theorem dLt_i (i j : Int) : dLt (.int i) (.int j) = some (.bl (decide (i < j))) := id rfl
@[simp] theorem dLe_i (i j : Int) : dLe (.int i) (.int j) = some (.bl (decide (i ≤ j))) := id rfl
@[simp] theorem dGt_i (i j : Int) : dGt (.int i) (.int j) = some (.bl (decide (j < i))) := id rfl
@[simp] theorem dGe_i (i j : Int) : dGe (.int i) (.int j) = some (.bl (decide (j ≤ i))) := id rfl
@[simp] theorem dEq_i (i j : Int) : dEq (.int i) (.int j) = some (.bl (decide (i = j))) := id rfl
@[simp] theorem dNe_i (i j : Int) : dNe (.int i) (.int j) = some (.bl (!decide (i = j))) := id rfl
@[simp] theorem dInt_i (i : Int) : dInt [.int i] = some (.int i) := id rfl
@[simp] theorem dAbs_i (i : Int) : dAbs [.int i] = some (.int (if i < 0 then -i else i)) := id rfl
@[simp] theorem dNeg_i (i : Int) : dNeg (.int i) = some (.int (-i)) := id rfl
@[simp] theorem dLen_l (xs : List D) : dLen [.lst xs] = some (.int xs.length) := id rfl
@[simp] theorem dLen_t (xs : List D) : dLen [.tup xs] = some (.int xs.length) := id rfl
@[simp] theorem dLen_k (xs : List D) : dLen [.kl xs] = some (.int xs.length) := id rfl
@[simp] theorem asB_b (b : Bool) : asB (.bl b) = some b := id rfl
@[simp] theorem asI_i (i : Int) : asI (.int i) = some i := id rfl
/-- numbers that were drawn -/
def Drawn (ds : List Int) : Prop := ∀ d ∈ ds, 0 ≤ d ∧ d < 65521
theorem Drawn.snoc {ds : List Int} {d : Int} (h : Drawn ds) (h1 : 0 ≤ d) (h2 : d < 65521) : Drawn (ds ++ [d]) := fun x hx => by
  rcases List.mem_append.mp hx with h3 | h3
  · exact h x h3
  · rw [List.mem_singleton.mp h3]; exact ⟨h1, h2⟩
def dst (sc many : D) (ds : List Int) (seed : Int) (s4 s5 s6 : Sl) : Sls := [.fz sc, .fz many, .ow (.lst (ds.map .int)), .fz (.int seed), s4, s5, s6]
theorem app_go {i : Nat} {f : Sls → Res D} {ρ : Sls} {ds : List Int} {d : Int} (h : ρ[i]? = some (.ow (.lst (ds.map .int)))) (hf : f ρ = ok (.int d)) (hl : ds.length ≤ 1000000) : sApp i f ρ = .nx (ρ.set i (.ow (.lst ((ds ++ [d]).map .int)))) := by
  unfold sApp
  rw [h]
  simp only [hf, thenF_ok, List.length_map, List.map_append, List.map_cons, List.map_nil]
  rw [if_pos (by have := size1000; omega)]
theorem draws_inner {sc many : D} {s4 : Sl} {seed : Int} (ds : List Int) (num : Int) (s6 : Sl) (h0 : 0 ≤ num) (hd : Drawn ds) (hl : ds.length ≤ 10000) :
    ∃ ds' num' s6', forL (fun x ρ => thenF (tgName 6 x ρ).quiet ρ (sIf (mT (mOp2 dGt (mVar 5) (mC (.int 0)))) (sSeq (sApp 2 (mOp2 dMod (mBI dInt [(mVar 5)]) (mC (.int 1009))))
    (sSet 5 (mOp2 dDiv (mVar 5) (mC (.int 1009))))) sNx)) (rangeD 0 60) (dst sc many ds seed s4 (.fz (.int num)) s6) = .nx (dst sc many ds' seed s4 (.fz (.int num')) s6') ∧ Drawn ds' ∧ ds'.length ≤ ds.length + 60 ∧ 0 ≤ num' := by
  have key := forL_inv (xs := rangeD 0 60) (i := 0) (ρ := dst sc many ds seed s4 (.fz (.int num)) s6) (R := fun i ρ => ∃ ds' num' s6', ρ = dst sc many ds' seed s4 (.fz (.int num')) s6' ∧ Drawn ds' ∧ ds'.length ≤ ds.length + i ∧ 0 ≤ num')
    (step := fun x ρ => thenF (tgName 6 x ρ).quiet ρ (sIf (mT (mOp2 dGt (mVar 5) (mC (.int 0)))) (sSeq (sApp 2 (mOp2 dMod (mBI dInt [(mVar 5)]) (mC (.int 1009))))
    (sSet 5 (mOp2 dDiv (mVar 5) (mC (.int 1009))))) sNx)) (fun j x ρ hx ⟨ds', num', s6', e, h1, h2, h3⟩ => ?_) ⟨ds, num, s6, rfl, hd, by omega, h0⟩
  · obtain ⟨ρ', e, ds', num', s6', e2, r1, r2, r3⟩ := key
    exact ⟨ds', num', s6', by rw [e, e2], r1, by rw [show (rangeD 0 60).length = 60 by simp [rangeD]] at r2; omega, r3⟩
  · subst e
    have hj : j < 60 := by
      have := (List.getElem?_eq_some_iff.mp hx).1
      simpa [rangeD] using this
    by_cases hp : 0 < num'
    · refine ⟨dst sc many (ds' ++ [num' % 1009]) seed s4 (.fz (.int (num' / 1009))) (.fz x), .inl ?_, _, _, _, rfl, h1.snoc (by omega) (by omega), by simp; omega, by omega⟩
      have happ : sApp 2 (mOp2 dMod (mBI dInt [mVar 5]) (mC (.int 1009))) (dst sc many ds' seed s4 (.fz (.int num')) (.fz x)) = .nx (dst sc many (ds' ++ [num' % 1009]) seed s4 (.fz (.int num')) (.fz x)) := by
        rw [app_go (ds := ds') (d := num' % 1009) rfl (by simp [mOp2, mBI, mArgs, mVar, dst, mC, dMod_i]) (by omega)]
        rfl
      simp only [tgName, Res.quiet_ok, thenF_ok]
      show sIf _ _ _ (dst sc many ds' seed s4 (.fz (.int num')) (.fz x)) = _
      have ht : mT (mOp2 dGt (mVar 5) (mC (.int 0))) (dst sc many ds' seed s4 (.fz (.int num')) (.fz x)) = ok true := by
        simp [mT, mOp2, mVar, dst, mC, hp]
      simp only [sIf, ht, thenF_ok, if_true, sSeq, happ]
      simp [sSet, mOp2, mVar, mC, dst, dDiv_i]
    · refine ⟨dst sc many ds' seed s4 (.fz (.int num')) (.fz x), .inl ?_, _, _, _, rfl, h1, by omega, h3⟩
      simp only [tgName, Res.quiet_ok, thenF_ok]
      show sIf _ _ _ (dst sc many ds' seed s4 (.fz (.int num')) (.fz x)) = _
      have ht : mT (mOp2 dGt (mVar 5) (mC (.int 0))) (dst sc many ds' seed s4 (.fz (.int num')) (.fz x)) = ok false := by
        simp [mT, mOp2, mVar, dst, mC, hp]
      simp only [sIf, ht, thenF_ok, if_false, sNx, Bool.false_eq_true]
/-- the first walk's step -/
theorem draws_step {sc many : D} (ds : List Int) (seed c : Int) (s4 s5 s6 : Sl) (hd : Drawn ds) (hl : ds.length ≤ 10000) (h0 : 0 ≤ seed) :
    ∃ ds' seed' s4' s5' s6', thenF (tgName 4 (.int c) (dst sc many ds seed s4 s5 s6)).quiet (dst sc many ds seed s4 s5 s6) (sSeq (sSet 5 (mBI dAbs [(mVar 4)]))
    (sSeq (sSet 3 (mOp2 dMod (mBI dInt [(mOp2 dAdd (mOp2 dAdd (mOp2 dMul (mVar 3) (mC (.int 48271))) (mVar 5)) (mC (.int 11)))]) (mC (.int 2147483647))))
    (sIf (mT (mOp2 dGe (mVar 5) (mOp2 dPow (mC (.int 10)) (mC (.int 18))))) (sFor (mRng rng1 [(mC (.int 60))]) (tgName 6)
    (sIf (mT (mOp2 dGt (mVar 5) (mC (.int 0)))) (sSeq (sApp 2 (mOp2 dMod (mBI dInt [(mVar 5)]) (mC (.int 1009))))
    (sSet 5 (mOp2 dDiv (mVar 5) (mC (.int 1009))))) sNx)) (sApp 2 (mOp2 dMod (mOp2 dDiv (mBI dInt [(mOp2 dAdd (mOp2 dMul (mVar 3) (mC (.int 16807))) (mC (.int 5)))]) (mC (.int 3))) (mC (.int 65521))))))) = .nx (dst sc many ds' seed' s4' s5' s6') ∧ Drawn ds' ∧ ds'.length ≤ ds.length + 60 ∧ 0 ≤ seed' := by
  have hn : (0 : Int) ≤ (if c < 0 then -c else c) := by split <;> omega
  generalize hN : (if c < 0 then -c else c) = num at hn
  have hs : (0 : Int) ≤ (seed * 48271 + num + 11) % 2147483647 := by omega
  generalize hS : (seed * 48271 + num + 11) % 2147483647 = seed1 at hs
  have e1 : sSet 5 (mBI dAbs [(mVar 4)]) (dst sc many ds seed (.fz (.int c)) s5 s6) = .nx (dst sc many ds seed (.fz (.int c)) (.fz (.int num)) s6) := by
    simp [sSet, mBI, mArgs, mVar, dst, hN]
  have e2 : sSet 3 (mOp2 dMod (mBI dInt [(mOp2 dAdd (mOp2 dAdd (mOp2 dMul (mVar 3) (mC (.int 48271))) (mVar 5)) (mC (.int 11)))]) (mC (.int 2147483647))) (dst sc many ds seed (.fz (.int c)) (.fz (.int num)) s6) = .nx (dst sc many ds seed1 (.fz (.int c)) (.fz (.int num)) s6) := by
    simp [sSet, mBI, mArgs, mVar, dst, mOp2, mC, dMul_r, dMod_i, hS]
  have e0 : tgName 4 (.int c) (dst sc many ds seed s4 s5 s6) = ok (dst sc many ds seed (.fz (.int c)) s5 s6) := rfl
  rw [e0]
  simp only [Res.quiet_ok, thenF_ok, sSeq, e1, e2]
  have hp : dPow (.int 10) (.int 18) = some (.int (10 ^ 18)) := by
    show (if (0 : Int) ≤ 18 ∧ (18 : Int) ≤ 1000 ∧ (10 : Int).natAbs < 2 ^ 64 then some (D.int (10 ^ (18 : Int).toNat)) else none) = _
    rw [if_pos (by decide)]
    rfl
  by_cases hg : (10 : Int) ^ 18 ≤ num
  · have ht : mT (mOp2 dGe (mVar 5) (mOp2 dPow (mC (.int 10)) (mC (.int 18)))) (dst sc many ds seed1 (.fz (.int c)) (.fz (.int num)) s6) = ok true := by
      have hg2 : (1000000000000000000 : Int) ≤ num := hg
      simp [mT, mOp2, mVar, dst, mC, hp, hg2]
    simp only [sIf, ht, thenF_ok, if_true]
    have hr : mRng rng1 [(mC (.int 60))] (dst sc many ds seed1 (.fz (.int c)) (.fz (.int num)) s6) = ok (rangeD 0 60) := rfl
    obtain ⟨ds', num', s6', e, r1, r2, r3⟩ := draws_inner (sc := sc) (many := many) (s4 := .fz (.int c)) (seed := seed1) ds num s6 hn hd hl
    refine ⟨ds', seed1, .fz (.int c), .fz (.int num'), s6', ?_, r1, r2, hs⟩
    simp only [sFor, hr, thenF_ok]
    exact e
  · have ht : mT (mOp2 dGe (mVar 5) (mOp2 dPow (mC (.int 10)) (mC (.int 18)))) (dst sc many ds seed1 (.fz (.int c)) (.fz (.int num)) s6) = ok false := by
      have hg2 : ¬ (1000000000000000000 : Int) ≤ num := hg
      simp [mT, mOp2, mVar, dst, mC, hp, hg2]
    simp only [sIf, ht, thenF_ok, if_false, Bool.false_eq_true]
    refine ⟨ds ++ [(seed1 * 16807 + 5) / 3 % 65521], seed1, _, _, _, (app_go (ds := ds) (d := (seed1 * 16807 + 5) / 3 % 65521) rfl (by simp [mOp2, mBI, mArgs, mVar, dst, mC, dMul_r, dMod_i, dDiv_i]) (by omega)).trans rfl, hd.snoc (by omega) (by omega), by simp, hs⟩
/-- the second walk's step -/
theorem draws_step2 {sc : D} (many : Nat) (ds : List Int) (seed : Int) (k : Nat) (s4 s5 s6 : Sl) (hd : Drawn ds) (hl : ds.length ≤ 10000) (h0 : 0 ≤ seed) :
    ∃ ds' seed' s6', thenF (tgName 6 (.int (0 + (k : Int))) (dst sc (.int many) ds seed s4 s5 s6)).quiet (dst sc (.int many) ds seed s4 s5 s6) (sIf (mT (mOp2 dLt (mBI dLen [(mVarB 2)]) (mVar 1))) (sSeq (sSet 3 (mOp2 dMod (mBI dInt [(mOp2 dAdd (mOp2 dAdd (mOp2 dMul (mVar 3) (mC (.int 69621))) (mVar 6)) (mC (.int 1)))]) (mC (.int 2147483647))))
    (sApp 2 (mOp2 dMod (mOp2 dDiv (mBI dInt [(mVar 3)]) (mC (.int 7))) (mC (.int 65521))))) sNx) = .nx (dst sc (.int many) ds' seed' s4 s5 s6') ∧ Drawn ds' ∧ ds'.length = (if ds.length < many then ds.length + 1 else ds.length) ∧ 0 ≤ seed' := by
  have e0 : tgName 6 (.int (0 + (k : Int))) (dst sc (.int many) ds seed s4 s5 s6) = ok (dst sc (.int many) ds seed s4 s5 (.fz (.int (0 + (k : Int))))) := rfl
  rw [e0]
  simp only [Res.quiet_ok, thenF_ok]
  by_cases hm : ds.length < many
  · have ht : mT (mOp2 dLt (mBI dLen [(mVarB 2)]) (mVar 1)) (dst sc (.int many) ds seed s4 s5 (.fz (.int (0 + (k : Int))))) = ok true := by
      simp [mT, mOp2, mBI, mArgs, mVarB, mVar, dst, hm]
    have hs : (0 : Int) ≤ (seed * 69621 + (0 + (k : Int)) + 1) % 2147483647 := by omega
    generalize hS : (seed * 69621 + (0 + (k : Int)) + 1) % 2147483647 = seed1 at hs
    have e2 : sSet 3 (mOp2 dMod (mBI dInt [(mOp2 dAdd (mOp2 dAdd (mOp2 dMul (mVar 3) (mC (.int 69621))) (mVar 6)) (mC (.int 1)))]) (mC (.int 2147483647))) (dst sc (.int many) ds seed s4 s5 (.fz (.int (0 + (k : Int))))) = .nx (dst sc (.int many) ds seed1 s4 s5 (.fz (.int (0 + (k : Int))))) := by
      rw [← hS]
      simp [sSet, mBI, mArgs, mVar, dst, mOp2, mC, dMul_r, dMod_i]
    simp only [sIf, ht, thenF_ok, if_true, sSeq, e2]
    refine ⟨ds ++ [seed1 / 7 % 65521], seed1, _, (app_go (ds := ds) (d := seed1 / 7 % 65521) rfl (by simp [mOp2, mBI, mArgs, mVar, dst, mC, dMod_i, dDiv_i]) (by omega)).trans rfl, hd.snoc (by omega) (by omega), by simp [hm], hs⟩
  · have ht : mT (mOp2 dLt (mBI dLen [(mVarB 2)]) (mVar 1)) (dst sc (.int many) ds seed s4 s5 (.fz (.int (0 + (k : Int))))) = ok false := by
      simp [mT, mOp2, mBI, mArgs, mVarB, mVar, dst, hm]
    simp only [sIf, ht, thenF_ok, if_false, Bool.false_eq_true, sNx]
    exact ⟨ds, seed, _, rfl, hd, by rw [if_neg hm], h0⟩
theorem draws_ok (ns : List Int) (many : Nat) (hm : many ≤ 1000) : ∃ ds : List Int, F__law_draws [.kl (ns.map .int), .int many] = ok (.lst (ds.map .int)) ∧ ds.length = many ∧ Drawn ds := by
  let sc : D := .kl (ns.map .int)
  have e1 : sSetO 2 (mLst []) (startS 7 [sc, .int many]) = .nx [.fz sc, .fz (.int many), .ow (.lst []), .no, .no, .no, .no] := rfl
  have e2 : sSet 3 (mC (.int 7)) [.fz sc, .fz (.int many), .ow (.lst []), .no, .no, .no, .no] = .nx (dst sc (.int many) [] 7 .no .no .no) := rfl
  have ei : mIt (mSl dSl (mVar 0) mNoPart (mPart (mC (.int 63)))) (dst sc (.int many) [] 7 .no .no .no) = ok ((ns.take 63).map .int) := by
    have : dSl sc none (some 63) = some (.lst ((ns.take 63).map .int)) := by
      show some (D.lst (cutD (ns.map .int) none (some 63))) = _
      rw [cutD_to (by decide), ← List.map_take]
      rfl
    simp [mIt, mSl, mVar, dst, mNoPart, mPart, mC, this, items]
  obtain ⟨ρ1, f1, ds1, seed1, s4, s5, s6, r1, r2, r3, r4⟩ := forL_inv (xs := (ns.take 63).map .int) (i := 0) (ρ := dst sc (.int many) [] 7 .no .no .no)
    (step := fun x ρ => thenF (tgName 4 x ρ).quiet ρ (sSeq (sSet 5 (mBI dAbs [(mVar 4)]))
    (sSeq (sSet 3 (mOp2 dMod (mBI dInt [(mOp2 dAdd (mOp2 dAdd (mOp2 dMul (mVar 3) (mC (.int 48271))) (mVar 5)) (mC (.int 11)))]) (mC (.int 2147483647))))
    (sIf (mT (mOp2 dGe (mVar 5) (mOp2 dPow (mC (.int 10)) (mC (.int 18))))) (sFor (mRng rng1 [(mC (.int 60))]) (tgName 6)
    (sIf (mT (mOp2 dGt (mVar 5) (mC (.int 0)))) (sSeq (sApp 2 (mOp2 dMod (mBI dInt [(mVar 5)]) (mC (.int 1009))))
    (sSet 5 (mOp2 dDiv (mVar 5) (mC (.int 1009))))) sNx)) (sApp 2 (mOp2 dMod (mOp2 dDiv (mBI dInt [(mOp2 dAdd (mOp2 dMul (mVar 3) (mC (.int 16807))) (mC (.int 5)))]) (mC (.int 3))) (mC (.int 65521))))))))
    (R := fun i ρ => ∃ ds seed s4 s5 s6, ρ = dst sc (.int many) ds seed s4 s5 s6 ∧ Drawn ds ∧ ds.length ≤ 60 * i ∧ 0 ≤ seed) (fun j x ρ hx ⟨ds, seed, s4, s5, s6, e, h1, h2, h3⟩ => by
      have hj : j < 63 := by
        have := (List.getElem?_eq_some_iff.mp hx).1
        simp at this
        omega
      rw [List.getElem?_map] at hx
      obtain ⟨c, hc, rfl⟩ := Option.map_eq_some_iff.mp hx
      subst e
      obtain ⟨ds', seed', s4', s5', s6', q, q1, q2, q3⟩ := draws_step (sc := sc) (many := .int many) ds seed c s4 s5 s6 h1 (by omega) h3
      exact ⟨_, .inl q, ds', seed', s4', s5', s6', rfl, q1, by omega, q3⟩) ⟨[], 7, .no, .no, .no, rfl, fun d h => by simp at h, by simp, by decide⟩
  have hl : ds1.length ≤ 60 * 63 := by
    have : ((ns.take 63).map D.int).length ≤ 63 := by simp; omega
    omega
  have er : mRng rng1 [(mVar 1)] (dst sc (.int many) ds1 seed1 s4 s5 s6) = ok (rangeD 0 many) := by
    have : rng1 [.int (many : Int)] = some (rangeD 0 many) := by
      show (if (many : Int) ≤ 1000000 ∧ -1000000 ≤ (many : Int) then some (rangeD 0 (many : Int).toNat) else none) = _
      rw [if_pos (by omega)]
      rfl
    simp [mRng, mArgs, mVar, dst, this]
  obtain ⟨ρ2, f2, ds2, seed2, t6, w1, w2, w3, w4, w5⟩ := forL_inv (xs := rangeD 0 many) (i := 0) (ρ := dst sc (.int many) ds1 seed1 s4 s5 s6)
    (step := fun x ρ => thenF (tgName 6 x ρ).quiet ρ (sIf (mT (mOp2 dLt (mBI dLen [(mVarB 2)]) (mVar 1))) (sSeq (sSet 3 (mOp2 dMod (mBI dInt [(mOp2 dAdd (mOp2 dAdd (mOp2 dMul (mVar 3) (mC (.int 69621))) (mVar 6)) (mC (.int 1)))]) (mC (.int 2147483647))))
    (sApp 2 (mOp2 dMod (mOp2 dDiv (mBI dInt [(mVar 3)]) (mC (.int 7))) (mC (.int 65521))))) sNx))
    (R := fun i ρ => ∃ ds seed s6, ρ = dst sc (.int many) ds seed s4 s5 s6 ∧ Drawn ds ∧ (i ≤ ds.length ∨ many ≤ ds.length) ∧ ds.length ≤ max ds1.length many ∧ 0 ≤ seed) (fun j x ρ hx ⟨ds, seed, s6, e, h1, h2, h3, h4⟩ => by
      rw [rangeD_map, List.getElem?_map] at hx
      obtain ⟨c, hc, rfl⟩ := Option.map_eq_some_iff.mp hx
      subst e
      obtain ⟨ds', seed', s6', q, q1, q2, q3⟩ := draws_step2 (sc := sc) many ds seed c s4 s5 s6 h1 (by have := Nat.max_le.mpr ⟨(by omega : ds1.length ≤ 10000), (by omega : many ≤ 10000)⟩; omega) h4
      refine ⟨_, .inl q, ds', seed', s6', rfl, q1, ?_, ?_, q3⟩
      · split at q2 <;> omega
      · have a1 := Nat.le_max_right ds1.length many
        split at q2 <;> omega) ⟨ds1, seed1, s6, rfl, r2, .inl (Nat.zero_le _), Nat.le_max_left _ _, r4⟩
  have hlen : many ≤ ds2.length := by
    have : (rangeD 0 many).length = many := by simp [rangeD]
    rw [this] at w3
    omega
  refine ⟨ds2.take many, ?_, by simp; omega, fun d hd => w2 d (List.mem_of_mem_take hd)⟩
  refine runF_rt ?_
  have eb : b__law_draws (startS 7 [sc, .int many]) = .rt (.lst ((ds2.take many).map .int)) := by
    unfold b__law_draws
    simp only [sSeq, e1, e2, sFor, ei, thenF_ok, f1, r1, er, f2, w1]
    have : dSl (.lst (ds2.map .int)) none (some (many : Int)) = some (.lst ((ds2.take many).map .int)) := by
      show some (D.lst (cutD (ds2.map .int) none (some (many : Int)))) = _
      rw [cutD_to (by omega), ← List.map_take]
      rfl
    simp [sRet, mSl, mVarB, mVar, dst, mNoPart, mPart, this]
  exact eb
end PP

namespace PP
open PySem L2
open Res (ok exc bad)
section
variable {ρ : Sls} {f g : Sls → Res D} {x y : Int}
theorem op2_ev {h : D → D → Option D} {a b c : D} (w1 : f ρ = ok a) (w2 : g ρ = ok b) (e : h a b = some c) : mOp2 h f g ρ = ok c := by
  unfold mOp2
  rw [w1, Res.ok_bind, w2, Res.ok_bind, e, ofO_some]
theorem op1_ev {h : D → Option D} {a c : D} (w1 : f ρ = ok a) (e : h a = some c) : mOp1 h f ρ = ok c := by
  unfold mOp1
  rw [w1, Res.ok_bind, e, ofO_some]
theorem args0 : mArgs [] ρ = ok [] := rfl
theorem args_ev {fs : List (Sls → Res D)} {a : D} {as : List D} (w1 : f ρ = ok a) (w2 : mArgs fs ρ = ok as) : mArgs (f :: fs) ρ = ok (a :: as) := by
  unfold mArgs
  rw [w1, Res.ok_bind, w2, Res.ok_bind]
theorem bi_ev {h : List D → Option D} {fs : List (Sls → Res D)} {as : List D} {c : D} (w1 : mArgs fs ρ = ok as) (e : h as = some c) : mBI h fs ρ = ok c := by
  unfold mBI
  rw [w1, Res.ok_bind, e, ofO_some]
theorem bi1 {h : List D → Option D} {a c : D} (w1 : f ρ = ok a) (e : h [a] = some c) : mBI h [f] ρ = ok c := bi_ev (args_ev w1 args0) e
theorem call_ev {F : List D → Res D} {fs : List (Sls → Res D)} {as : List D} {r : Res D} (w1 : mArgs fs ρ = ok as) (e : F as = r) : mCall F fs ρ = r := by
  unfold mCall
  rw [w1, Res.ok_bind, e]
theorem make_ev {F : List D → Res D} {fs : List (Sls → Res D)} {as : List D} {c : D} (w1 : mArgs fs ρ = ok as) (e : F as = ok c) : mMake F fs ρ = ok c := by
  unfold mMake
  rw [w1, Res.ok_bind, e]
  rfl
theorem tup_ev {fs : List (Sls → Res D)} {as : List D} (w1 : mArgs fs ρ = ok as) : mTup fs ρ = ok (.tup as) := by
  unfold mTup
  rw [w1, Res.ok_bind]
theorem lst_ev {fs : List (Sls → Res D)} {as : List D} (w1 : mArgs fs ρ = ok as) : mLst fs ρ = ok (.lst as) := by
  unfold mLst
  rw [w1, Res.ok_bind]
theorem i_add (w1 : f ρ = ok (.int x)) (w2 : g ρ = ok (.int y)) : mOp2 dAdd f g ρ = ok (.int (x + y)) := op2_ev w1 w2 (dAdd_i x y)
theorem i_sub (w1 : f ρ = ok (.int x)) (w2 : g ρ = ok (.int y)) : mOp2 dSub f g ρ = ok (.int (x - y)) := op2_ev w1 w2 (dSub_i x y)
theorem two64 : (2 : Int) ^ 64 = 18446744073709551616 := by decide +kernel
theorem dMul_sl {i j : Int} (h1 : -1000000000 < i) (h2 : i < 1000000000) : dMul (.int i) (.int j) = some (.int (i * j)) := dMul_l (by rw [two64]; omega) (by rw [two64]; omega)
theorem dMul_sr {i j : Int} (h1 : -1000000000 < j) (h2 : j < 1000000000) : dMul (.int i) (.int j) = some (.int (i * j)) := dMul_r (by rw [two64]; omega) (by rw [two64]; omega)
theorem i_mulR (w1 : f ρ = ok (.int x)) (w2 : g ρ = ok (.int y)) (h1 : -1000000000 < y := by omega) (h2 : y < 1000000000 := by omega) : mOp2 dMul f g ρ = ok (.int (x * y)) := op2_ev w1 w2 (dMul_sr h1 h2)
theorem i_mulL (w1 : f ρ = ok (.int x)) (w2 : g ρ = ok (.int y)) (h1 : -1000000000 < x := by omega) (h2 : x < 1000000000 := by omega) : mOp2 dMul f g ρ = ok (.int (x * y)) := op2_ev w1 w2 (dMul_sl h1 h2)
theorem i_mod (w1 : f ρ = ok (.int x)) (w2 : g ρ = ok (.int y)) (h1 : 0 < y := by omega) : mOp2 dMod f g ρ = ok (.int (x % y)) := op2_ev w1 w2 (dMod_i h1)
theorem i_div (w1 : f ρ = ok (.int x)) (w2 : g ρ = ok (.int y)) (h1 : 0 < y := by omega) (h2 : y < 1073741824 := by omega) : mOp2 dDiv f g ρ = ok (.int (x / y)) := op2_ev w1 w2 (dDiv_i h1 h2)
theorem i_int (w1 : f ρ = ok (.int x)) : mBI dInt [f] ρ = ok (.int x) := bi1 w1 (dInt_i x)
theorem i_neg (w1 : f ρ = ok (.int x)) : mOp1 dNeg f ρ = ok (.int (-x)) := op1_ev w1 (dNeg_i x)
theorem i_lenL {l : List D} (w1 : f ρ = ok (.lst l)) : mBI dLen [f] ρ = ok (.int l.length) := bi1 w1 (dLen_l l)
theorem i_lenT {l : List D} (w1 : f ρ = ok (.tup l)) : mBI dLen [f] ρ = ok (.int l.length) := bi1 w1 (dLen_t l)
theorem i_lenS {l : List Nat} (w1 : f ρ = ok (tx l)) (h : l.length ≤ 1000000 := by omega) : mBI dLen [f] ρ = ok (.int l.length) := bi1 w1 (dLen_tx h)
theorem t_ev {b : Bool} (w : f ρ = ok (.bl b)) : mT f ρ = ok b := by
  unfold mT
  rw [w, Res.ok_bind, asB_b, ofO_some]
theorem t_lt (w1 : f ρ = ok (.int x)) (w2 : g ρ = ok (.int y)) : mT (mOp2 dLt f g) ρ = ok (decide (x < y)) := t_ev (op2_ev w1 w2 (dLt_i x y))
theorem t_le (w1 : f ρ = ok (.int x)) (w2 : g ρ = ok (.int y)) : mT (mOp2 dLe f g) ρ = ok (decide (x ≤ y)) := t_ev (op2_ev w1 w2 (dLe_i x y))
theorem t_gt (w1 : f ρ = ok (.int x)) (w2 : g ρ = ok (.int y)) : mT (mOp2 dGt f g) ρ = ok (decide (y < x)) := t_ev (op2_ev w1 w2 (dGt_i x y))
theorem t_ge (w1 : f ρ = ok (.int x)) (w2 : g ρ = ok (.int y)) : mT (mOp2 dGe f g) ρ = ok (decide (y ≤ x)) := t_ev (op2_ev w1 w2 (dGe_i x y))
theorem t_eqI (w1 : f ρ = ok (.int x)) (w2 : g ρ = ok (.int y)) : mT (mOp2 dEq f g) ρ = ok (decide (x = y)) := t_ev (op2_ev w1 w2 (dEq_i x y))
theorem t_neI (w1 : f ρ = ok (.int x)) (w2 : g ρ = ok (.int y)) : mT (mOp2 dNe f g) ρ = ok (!decide (x = y)) := t_ev (op2_ev w1 w2 (dNe_i x y))
theorem t_eqS {a b : List Nat} (w1 : f ρ = ok (tx a)) (w2 : g ρ = ok (tx b)) : mT (mOp2 dEq f g) ρ = ok (decide (a = b)) := t_ev (op2_ev w1 w2 (dEq_tx a b))
theorem t_neS {a b : List Nat} (w1 : f ρ = ok (tx a)) (w2 : g ρ = ok (tx b)) : mT (mOp2 dNe f g) ρ = ok (!decide (a = b)) := t_ev (op2_ev w1 w2 (dNe_tx a b))
theorem t_eqP {a b : Int × Int} (w1 : f ρ = ok (pt a)) (w2 : g ρ = ok (pt b)) : mT (mOp2 dEq f g) ρ = ok (decide (a = b)) := t_ev (op2_ev w1 w2 (dEq_pt a b))
theorem t_neP {a b : Int × Int} (w1 : f ρ = ok (pt a)) (w2 : g ρ = ok (pt b)) : mT (mOp2 dNe f g) ρ = ok (!decide (a = b)) := t_ev (op2_ev w1 w2 (dNe_pt a b))
variable {c d : Sls → Res Bool} {a b : Bool}
theorem not_ev (w : c ρ = ok a) : mNot c ρ = ok (!a) := by
  unfold mNot
  rw [w, Res.ok_bind]
theorem and_ev (w : c ρ = ok a) (w2 : a = true → d ρ = ok b) : mAnd c d ρ = ok (a && b) := by
  unfold mAnd
  rw [w, Res.ok_bind]
  cases a with
  | true => rw [if_pos rfl, w2 rfl]; rfl
  | false => rfl
theorem or_ev (w : c ρ = ok a) (w2 : a = false → d ρ = ok b) : mOr c d ρ = ok (a || b) := by
  unfold mOr
  rw [w, Res.ok_bind]
  cases a with
  | true => rfl
  | false => rw [if_neg Bool.false_ne_true, w2 rfl]; rfl
theorem andV_ev (w : f ρ = ok (.bl a)) (w2 : a = true → g ρ = ok (.bl b)) : mAndV f g ρ = ok (.bl (a && b)) := by
  unfold mAndV
  rw [w, Res.ok_bind, asB_b, ofO_some, Res.ok_bind]
  cases a with
  | true => rw [if_pos rfl, w2 rfl]; rfl
  | false => rfl
theorem orV_ev (w : f ρ = ok (.bl a)) (w2 : a = false → g ρ = ok (.bl b)) : mOrV f g ρ = ok (.bl (a || b)) := by
  unfold mOrV
  rw [w, Res.ok_bind, asB_b, ofO_some, Res.ok_bind]
  cases a with
  | true => rfl
  | false => rw [if_neg Bool.false_ne_true, w2 rfl]; rfl
theorem notV_ev (w : f ρ = ok (.bl a)) : mNotV f ρ = ok (.bl (!a)) := by
  unfold mNotV
  rw [w, Res.ok_bind, asB_b, ofO_some, Res.ok_bind]
theorem if_ev {u v : D} (w : c ρ = ok a) (w1 : a = true → f ρ = ok u) (w2 : a = false → g ρ = ok v) : mIf c f g ρ = ok (if a = true then u else v) := by
  unfold mIf
  rw [w, Res.ok_bind]
  cases a with
  | true => rw [if_pos rfl, if_pos rfl, w1 rfl]
  | false => rw [if_neg Bool.false_ne_true, if_neg Bool.false_ne_true, w2 rfl]
theorem chain_ev {h1 h2 : D → D → Option D} {k : Sls → Res D} {u v w : D} (e1 : f ρ = ok u) (e2 : g ρ = ok v) (e3 : h1 u v = some (.bl a)) (e4 : a = true → k ρ = ok w ∧ h2 v w = some (.bl b)) : mChain h1 h2 f g k ρ = ok (.bl (a && b)) := by
  unfold mChain
  rw [e1, Res.ok_bind, e2, Res.ok_bind, e3, ofO_some, Res.ok_bind, asB_b, ofO_some, Res.ok_bind]
  cases a with
  | true => rw [if_pos rfl, (e4 rfl).1, Res.ok_bind, (e4 rfl).2]; rfl
  | false => rfl
/-! ### statements -/
variable {s t : Sls → Fl} {ρ' : Sls}
theorem seq_nx (e : s ρ = .nx ρ') : sSeq s t ρ = t ρ' := by
  unfold sSeq
  rw [e]
theorem seq_nx2 {fl : Fl} (e : s ρ = .nx ρ') (e2 : t ρ' = fl) : sSeq s t ρ = fl := (seq_nx e).trans e2
theorem seq_exc {z : Str} (e : s ρ = .exc z ρ') : sSeq s t ρ = .exc z ρ' := by
  unfold sSeq
  rw [e]
theorem seq_rt {u : D} (e : s ρ = .rt u) : sSeq s t ρ = .rt u := by
  unfold sSeq
  rw [e]
theorem set_ev {i : Nat} {u : D} (e : f ρ = ok u) : sSet i f ρ = .nx (ρ.set i (.fz u)) := by
  unfold sSet
  rw [e]
  rfl
theorem setO_ev {i : Nat} {u : D} (e : f ρ = ok u) : sSetO i f ρ = .nx (ρ.set i (.ow u)) := by
  unfold sSetO
  rw [e]
  rfl
theorem ret_ev {u : D} (e : f ρ = ok u) : sRet f ρ = .rt u := by
  unfold sRet
  rw [e]
  rfl
theorem drop_ev {u : D} (e : f ρ = ok u) : sDrop f ρ = .nx ρ := by
  unfold sDrop
  rw [e]
  rfl
theorem drop_exc {z : Str} (e : f ρ = exc z) : sDrop f ρ = .exc z ρ := by
  unfold sDrop
  rw [e]
  rfl
theorem if_t (e : c ρ = ok true) : sIf c s t ρ = s ρ := by
  unfold sIf
  rw [e]
  rfl
theorem if_f (e : c ρ = ok false) : sIf c s t ρ = t ρ := by
  unfold sIf
  rw [e]
  rfl
theorem if_nx (e : c ρ = ok false) : sIf c s sNx ρ = .nx ρ := (if_f e).trans rfl
theorem par_ev {i j : Nat} {u v : D} (e : f ρ = ok u) (e2 : g ρ = ok v) : sPar i j f g ρ = .nx ((ρ.set i (.fz u)).set j (.fz v)) := by
  unfold sPar
  rw [e, thenF_ok, e2, thenF_ok]
theorem asg2_ev {i j : Nat} {u v : D} (e : f ρ = ok (.tup [u, v])) : sAsg (tgTup 2 (tgsCons (tgName i) (tgsCons (tgName j) tgsNil))) f ρ = .nx ((ρ.set i (.fz u)).set j (.fz v)) := by
  unfold sAsg
  rw [e]
  rfl
theorem for_ev {it : Sls → Res (List D)} {tg : TgF} {xs : List D} (e : it ρ = ok xs) : sFor it tg s ρ = forL (fun x ρ => thenF (tg x ρ).quiet ρ s) xs ρ := by
  unfold sFor
  rw [e, thenF_ok]
theorem it_ev {u : D} {xs : List D} (e : f ρ = ok u) (e2 : items u = some xs) : mIt f ρ = ok xs := by
  unfold mIt
  rw [e, Res.ok_bind, e2, ofO_some]
theorem app_ev {i : Nat} {xs : List D} {u : D} (h : ρ[i]? = some (.ow (.lst xs))) (hf : f ρ = ok u) (hl : xs.length ≤ 1000000) : sApp i f ρ = .nx (ρ.set i (.ow (.lst (xs ++ [u])))) := by
  unfold sApp
  rw [h]
  show thenF (f ρ) ρ _ = _
  rw [hf, thenF_ok, if_pos (by have := size1000; omega)]
theorem for_name {i : Nat} {x : D} : thenF (tgName i x ρ).quiet ρ s = s (ρ.set i (.fz x)) := rfl
theorem sl_to {u v : D} {k : Int} (e : f ρ = ok u) (e2 : g ρ = ok (.int k)) (e3 : dSl u none (some k) = some v) : mSl dSl f mNoPart (mPart g) ρ = ok v := by
  unfold mSl mNoPart mPart
  rw [e, Res.ok_bind, Res.ok_bind, e2]
  show ofO (dSl u none (some k)) = _
  rw [e3, ofO_some]
theorem sl_from {u v : D} {k : Int} (e : f ρ = ok u) (e2 : g ρ = ok (.int k)) (e3 : dSl u (some k) none = some v) : mSl dSl f (mPart g) mNoPart ρ = ok v := by
  unfold mSl mNoPart mPart
  rw [e, Res.ok_bind, e2]
  show ofO (dSl u (some k) none) = _
  rw [e3, ofO_some]
theorem sl_both {u v : D} {k l : Int} {f2 : Sls → Res D} (e : f ρ = ok u) (e1 : f2 ρ = ok (.int l)) (e2 : g ρ = ok (.int k)) (e3 : dSl u (some l) (some k) = some v) : mSl dSl f (mPart f2) (mPart g) ρ = ok v := by
  unfold mSl mPart
  rw [e, Res.ok_bind, e1]
  show ((g ρ >>= fun x => ofO (asI x) >>= fun i => ok (some i)) >>= fun hi => ofO (dSl u (some l) hi)) = _
  rw [e2]
  show ofO (dSl u (some l) (some k)) = _
  rw [e3, ofO_some]
theorem m1_ev {h : D → D → Option D} {z : Str} {v w : D} (e : f ρ = ok (.str z)) (e2 : g ρ = ok v) (e3 : h (.str z) v = some w) : mM1 h f g ρ = ok w := by
  unfold mM1
  rw [e, Res.ok_bind]
  show (g ρ >>= fun y => ofO (h (.str z) y)) = _
  rw [e2, Res.ok_bind, e3, ofO_some]
theorem lc_ev {α : Type} {it : Sls → Res (List D)} {vs : List Nat} {tg : TgF} {tt : Sls → Res Bool} {te : Sls → Res D} {emb : α → D} {as : List α} {p : α → Bool} {g : α → D} (hi : it ρ = ok (as.map emb))
    (h : ∀ a ∈ as, ∃ ρ', tg (emb a) (wipeS ρ vs) = ok ρ' ∧ tt ρ' = ok (p a) ∧ (p a = true → te ρ' = ok (g a))) : mLc it vs tg tt te ρ = ok (.lst ((as.filter p).map g)) := by
  unfold mLc
  rw [hi]
  simp only [Res.ok_bind]
  rw [compL_of (g := fun a => if p a then some (g a) else none) fun a ha => ?_]
  · simp only [Res.ok_bind]
    congr 2
    clear h hi
    induction as with
    | nil => rfl
    | cons a r ih =>
      rw [List.filterMap_cons, List.filter_cons]
      cases p a with
      | true => simp only [if_true, List.map_cons]; rw [ih]
      | false => simp only [Bool.false_eq_true, if_false]; exact ih
  · obtain ⟨ρ', h1, h2, h3⟩ := h a ha
    unfold lcStep
    rw [h1, Res.ok_bind, h2, Res.ok_bind]
    cases hp : p a with
    | true => rw [if_pos rfl, h3 hp]; rfl
    | false => rfl
theorem lc_ev0 {α : Type} {it : Sls → Res (List D)} {vs : List Nat} {tg : TgF} {te : Sls → Res D} {emb : α → D} {as : List α} {g : α → D} (hi : it ρ = ok (as.map emb))
    (h : ∀ a ∈ as, ∃ ρ', tg (emb a) (wipeS ρ vs) = ok ρ' ∧ te ρ' = ok (g a)) : mLc it vs tg mYes te ρ = ok (.lst (as.map g)) := by
  have := lc_ev (p := fun _ => true) (tt := mYes) hi fun a ha => by
    obtain ⟨ρ', h1, h2⟩ := h a ha
    exact ⟨ρ', h1, rfl, fun _ => h2⟩
  have e : as.filter (fun _ => true) = as := List.filter_eq_self.mpr fun _ _ => rfl
  rw [e] at this
  exact this
end
end PP

namespace PP
open PySem L2
open Res (ok exc bad)
@[simp] theorem dMulX_i (i j : Int) : dMulX (.int i) (.int j) = dMul (.int i) (.int j) := id rfl
@[simp] theorem dLtX_i (i j : Int) : dLtX (.int i) (.int j) = some (.bl (decide (i < j))) := id rfl
@[simp] theorem dLeX_i (i j : Int) : dLeX (.int i) (.int j) = some (.bl (decide (i ≤ j))) := id rfl
@[simp] theorem dGtX_i (i j : Int) : dGtX (.int i) (.int j) = some (.bl (decide (j < i))) := id rfl
@[simp] theorem dGeX_i (i j : Int) : dGeX (.int i) (.int j) = some (.bl (decide (j ≤ i))) := id rfl
@[simp] theorem dLenX_l (xs : List D) : dLenX [.lst xs] = some (.int xs.length) := id rfl
@[simp] theorem dLenX_t (xs : List D) : dLenX [.tup xs] = some (.int xs.length) := id rfl
@[simp] theorem dLenX_k (xs : List D) : dLenX [.kl xs] = some (.int xs.length) := id rfl
namespace W
/-- script many draws seed cell number k -/
noncomputable def b__law_draws : Sls → Fl :=
    (sSeq (sSetO 2 (mLst []))
    (sSeq (sSet 3 (mC (.int 7)))
    (sSeq (sFor (mIt (mSl dSl (mVar 0) mNoPart (mPart (mC (.int 63))))) (tgName 4)
    (sSeq (sSet 5 (mBI dAbs [(mVar 4)]))
    (sSeq (sSet 3 (mOp2 dMod (mBI dInt [(mOp2 dAdd (mOp2 dAdd (mOp2 dMulX (mVar 3) (mC (.int 48271))) (mVar 5)) (mC (.int 11)))]) (mC (.int 2147483647))))
    (sIf (mT (mOp2 dGeX (mVar 5) (mOp2 dPow (mC (.int 10)) (mC (.int 18))))) (sFor (mRng rng1 [(mC (.int 60))]) (tgName 6)
    (sIf (mT (mOp2 dGtX (mVar 5) (mC (.int 0)))) (sSeq (sApp 2 (mOp2 dMod (mBI dInt [(mVar 5)]) (mC (.int 1009))))
    (sSet 5 (mOp2 dDiv (mVar 5) (mC (.int 1009))))) sNx)) (sApp 2 (mOp2 dMod (mOp2 dDiv (mBI dInt [(mOp2 dAdd (mOp2 dMulX (mVar 3) (mC (.int 16807))) (mC (.int 5)))]) (mC (.int 3))) (mC (.int 65521))))))))
    (sSeq (sFor (mRng rng1 [(mVar 1)]) (tgName 6)
    (sIf (mT (mOp2 dLtX (mBI dLenX [(mVarB 2)]) (mVar 1))) (sSeq (sSet 3 (mOp2 dMod (mBI dInt [(mOp2 dAdd (mOp2 dAdd (mOp2 dMulX (mVar 3) (mC (.int 69621))) (mVar 6)) (mC (.int 1)))]) (mC (.int 2147483647))))
    (sApp 2 (mOp2 dMod (mOp2 dDiv (mBI dInt [(mVar 3)]) (mC (.int 7))) (mC (.int 65521))))) sNx))
    (sRet (mSl dSl (mVarB 2) mNoPart (mPart (mVar 1))))))))
noncomputable def F__law_draws : List D → Res D := runF 7 2 b__law_draws
theorem draws_inner {sc many : D} {s4 : Sl} {seed : Int} (ds : List Int) (num : Int) (s6 : Sl) (h0 : 0 ≤ num) (hd : Drawn ds) (hl : ds.length ≤ 10000) :
    ∃ ds' num' s6', forL (fun x ρ => thenF (tgName 6 x ρ).quiet ρ (sIf (mT (mOp2 dGtX (mVar 5) (mC (.int 0)))) (sSeq (sApp 2 (mOp2 dMod (mBI dInt [(mVar 5)]) (mC (.int 1009))))
    (sSet 5 (mOp2 dDiv (mVar 5) (mC (.int 1009))))) sNx)) (rangeD 0 60) (dst sc many ds seed s4 (.fz (.int num)) s6) = .nx (dst sc many ds' seed s4 (.fz (.int num')) s6') ∧ Drawn ds' ∧ ds'.length ≤ ds.length + 60 ∧ 0 ≤ num' := by
  have key := forL_inv (xs := rangeD 0 60) (i := 0) (ρ := dst sc many ds seed s4 (.fz (.int num)) s6) (R := fun i ρ => ∃ ds' num' s6', ρ = dst sc many ds' seed s4 (.fz (.int num')) s6' ∧ Drawn ds' ∧ ds'.length ≤ ds.length + i ∧ 0 ≤ num')
    (step := fun x ρ => thenF (tgName 6 x ρ).quiet ρ (sIf (mT (mOp2 dGtX (mVar 5) (mC (.int 0)))) (sSeq (sApp 2 (mOp2 dMod (mBI dInt [(mVar 5)]) (mC (.int 1009))))
    (sSet 5 (mOp2 dDiv (mVar 5) (mC (.int 1009))))) sNx)) (fun j x ρ hx ⟨ds', num', s6', e, h1, h2, h3⟩ => ?_) ⟨ds, num, s6, rfl, hd, by omega, h0⟩
  · obtain ⟨ρ', e, ds', num', s6', e2, r1, r2, r3⟩ := key
    exact ⟨ds', num', s6', by rw [e, e2], r1, by rw [show (rangeD 0 60).length = 60 by simp [rangeD]] at r2; omega, r3⟩
  · subst e
    have hj : j < 60 := by
      have := (List.getElem?_eq_some_iff.mp hx).1
      simpa [rangeD] using this
    by_cases hp : 0 < num'
    · refine ⟨dst sc many (ds' ++ [num' % 1009]) seed s4 (.fz (.int (num' / 1009))) (.fz x), .inl ?_, _, _, _, rfl, h1.snoc (by omega) (by omega), by simp; omega, by omega⟩
      have happ : sApp 2 (mOp2 dMod (mBI dInt [mVar 5]) (mC (.int 1009))) (dst sc many ds' seed s4 (.fz (.int num')) (.fz x)) = .nx (dst sc many (ds' ++ [num' % 1009]) seed s4 (.fz (.int num')) (.fz x)) := by
        rw [app_go (ds := ds') (d := num' % 1009) rfl (by simp [mOp2, mBI, mArgs, mVar, dst, mC, dMod_i]) (by omega)]
        rfl
      simp only [tgName, Res.quiet_ok, thenF_ok]
      show sIf _ _ _ (dst sc many ds' seed s4 (.fz (.int num')) (.fz x)) = _
      have ht : mT (mOp2 dGtX (mVar 5) (mC (.int 0))) (dst sc many ds' seed s4 (.fz (.int num')) (.fz x)) = ok true := by
        simp [mT, mOp2, mVar, dst, mC, hp]
      simp only [sIf, ht, thenF_ok, if_true, sSeq, happ]
      simp [sSet, mOp2, mVar, mC, dst, dDiv_i]
    · refine ⟨dst sc many ds' seed s4 (.fz (.int num')) (.fz x), .inl ?_, _, _, _, rfl, h1, by omega, h3⟩
      simp only [tgName, Res.quiet_ok, thenF_ok]
      show sIf _ _ _ (dst sc many ds' seed s4 (.fz (.int num')) (.fz x)) = _
      have ht : mT (mOp2 dGtX (mVar 5) (mC (.int 0))) (dst sc many ds' seed s4 (.fz (.int num')) (.fz x)) = ok false := by
        simp [mT, mOp2, mVar, dst, mC, hp]
      simp only [sIf, ht, thenF_ok, if_false, sNx, Bool.false_eq_true]
/-- the first walk's step -/
theorem draws_step {sc many : D} (ds : List Int) (seed c : Int) (s4 s5 s6 : Sl) (hd : Drawn ds) (hl : ds.length ≤ 10000) (h0 : 0 ≤ seed) :
    ∃ ds' seed' s4' s5' s6', thenF (tgName 4 (.int c) (dst sc many ds seed s4 s5 s6)).quiet (dst sc many ds seed s4 s5 s6) (sSeq (sSet 5 (mBI dAbs [(mVar 4)]))
    (sSeq (sSet 3 (mOp2 dMod (mBI dInt [(mOp2 dAdd (mOp2 dAdd (mOp2 dMulX (mVar 3) (mC (.int 48271))) (mVar 5)) (mC (.int 11)))]) (mC (.int 2147483647))))
    (sIf (mT (mOp2 dGeX (mVar 5) (mOp2 dPow (mC (.int 10)) (mC (.int 18))))) (sFor (mRng rng1 [(mC (.int 60))]) (tgName 6)
    (sIf (mT (mOp2 dGtX (mVar 5) (mC (.int 0)))) (sSeq (sApp 2 (mOp2 dMod (mBI dInt [(mVar 5)]) (mC (.int 1009))))
    (sSet 5 (mOp2 dDiv (mVar 5) (mC (.int 1009))))) sNx)) (sApp 2 (mOp2 dMod (mOp2 dDiv (mBI dInt [(mOp2 dAdd (mOp2 dMulX (mVar 3) (mC (.int 16807))) (mC (.int 5)))]) (mC (.int 3))) (mC (.int 65521))))))) = .nx (dst sc many ds' seed' s4' s5' s6') ∧ Drawn ds' ∧ ds'.length ≤ ds.length + 60 ∧ 0 ≤ seed' := by
  have hn : (0 : Int) ≤ (if c < 0 then -c else c) := by split <;> omega
  generalize hN : (if c < 0 then -c else c) = num at hn
  have hs : (0 : Int) ≤ (seed * 48271 + num + 11) % 2147483647 := by omega
  generalize hS : (seed * 48271 + num + 11) % 2147483647 = seed1 at hs
  have e1 : sSet 5 (mBI dAbs [(mVar 4)]) (dst sc many ds seed (.fz (.int c)) s5 s6) = .nx (dst sc many ds seed (.fz (.int c)) (.fz (.int num)) s6) := by
    simp [sSet, mBI, mArgs, mVar, dst, hN]
  have e2 : sSet 3 (mOp2 dMod (mBI dInt [(mOp2 dAdd (mOp2 dAdd (mOp2 dMulX (mVar 3) (mC (.int 48271))) (mVar 5)) (mC (.int 11)))]) (mC (.int 2147483647))) (dst sc many ds seed (.fz (.int c)) (.fz (.int num)) s6) = .nx (dst sc many ds seed1 (.fz (.int c)) (.fz (.int num)) s6) := by
    simp [sSet, mBI, mArgs, mVar, dst, mOp2, mC, dMul_r, dMod_i, hS]
  have e0 : tgName 4 (.int c) (dst sc many ds seed s4 s5 s6) = ok (dst sc many ds seed (.fz (.int c)) s5 s6) := rfl
  rw [e0]
  simp only [Res.quiet_ok, thenF_ok, sSeq, e1, e2]
  have hp : dPow (.int 10) (.int 18) = some (.int (10 ^ 18)) := by
    show (if (0 : Int) ≤ 18 ∧ (18 : Int) ≤ 1000 ∧ (10 : Int).natAbs < 2 ^ 64 then some (D.int (10 ^ (18 : Int).toNat)) else none) = _
    rw [if_pos (by decide)]
    rfl
  by_cases hg : (10 : Int) ^ 18 ≤ num
  · have ht : mT (mOp2 dGeX (mVar 5) (mOp2 dPow (mC (.int 10)) (mC (.int 18)))) (dst sc many ds seed1 (.fz (.int c)) (.fz (.int num)) s6) = ok true := by
      have hg2 : (1000000000000000000 : Int) ≤ num := hg
      simp [mT, mOp2, mVar, dst, mC, hp, hg2]
    simp only [sIf, ht, thenF_ok, if_true]
    have hr : mRng rng1 [(mC (.int 60))] (dst sc many ds seed1 (.fz (.int c)) (.fz (.int num)) s6) = ok (rangeD 0 60) := rfl
    obtain ⟨ds', num', s6', e, r1, r2, r3⟩ := draws_inner (sc := sc) (many := many) (s4 := .fz (.int c)) (seed := seed1) ds num s6 hn hd hl
    refine ⟨ds', seed1, .fz (.int c), .fz (.int num'), s6', ?_, r1, r2, hs⟩
    simp only [sFor, hr, thenF_ok]
    exact e
  · have ht : mT (mOp2 dGeX (mVar 5) (mOp2 dPow (mC (.int 10)) (mC (.int 18)))) (dst sc many ds seed1 (.fz (.int c)) (.fz (.int num)) s6) = ok false := by
      have hg2 : ¬ (1000000000000000000 : Int) ≤ num := hg
      simp [mT, mOp2, mVar, dst, mC, hp, hg2]
    simp only [sIf, ht, thenF_ok, if_false, Bool.false_eq_true]
    refine ⟨ds ++ [(seed1 * 16807 + 5) / 3 % 65521], seed1, _, _, _, (app_go (ds := ds) (d := (seed1 * 16807 + 5) / 3 % 65521) rfl (by simp [mOp2, mBI, mArgs, mVar, dst, mC, dMul_r, dMod_i, dDiv_i]) (by omega)).trans rfl, hd.snoc (by omega) (by omega), by simp, hs⟩
/-- the second walk's step -/
theorem draws_step2 {sc : D} (many : Nat) (ds : List Int) (seed : Int) (k : Nat) (s4 s5 s6 : Sl) (hd : Drawn ds) (hl : ds.length ≤ 10000) (h0 : 0 ≤ seed) :
    ∃ ds' seed' s6', thenF (tgName 6 (.int (0 + (k : Int))) (dst sc (.int many) ds seed s4 s5 s6)).quiet (dst sc (.int many) ds seed s4 s5 s6) (sIf (mT (mOp2 dLtX (mBI dLenX [(mVarB 2)]) (mVar 1))) (sSeq (sSet 3 (mOp2 dMod (mBI dInt [(mOp2 dAdd (mOp2 dAdd (mOp2 dMulX (mVar 3) (mC (.int 69621))) (mVar 6)) (mC (.int 1)))]) (mC (.int 2147483647))))
    (sApp 2 (mOp2 dMod (mOp2 dDiv (mBI dInt [(mVar 3)]) (mC (.int 7))) (mC (.int 65521))))) sNx) = .nx (dst sc (.int many) ds' seed' s4 s5 s6') ∧ Drawn ds' ∧ ds'.length = (if ds.length < many then ds.length + 1 else ds.length) ∧ 0 ≤ seed' := by
  have e0 : tgName 6 (.int (0 + (k : Int))) (dst sc (.int many) ds seed s4 s5 s6) = ok (dst sc (.int many) ds seed s4 s5 (.fz (.int (0 + (k : Int))))) := rfl
  rw [e0]
  simp only [Res.quiet_ok, thenF_ok]
  by_cases hm : ds.length < many
  · have ht : mT (mOp2 dLtX (mBI dLenX [(mVarB 2)]) (mVar 1)) (dst sc (.int many) ds seed s4 s5 (.fz (.int (0 + (k : Int))))) = ok true := by
      simp [mT, mOp2, mBI, mArgs, mVarB, mVar, dst, hm]
    have hs : (0 : Int) ≤ (seed * 69621 + (0 + (k : Int)) + 1) % 2147483647 := by omega
    generalize hS : (seed * 69621 + (0 + (k : Int)) + 1) % 2147483647 = seed1 at hs
    have e2 : sSet 3 (mOp2 dMod (mBI dInt [(mOp2 dAdd (mOp2 dAdd (mOp2 dMulX (mVar 3) (mC (.int 69621))) (mVar 6)) (mC (.int 1)))]) (mC (.int 2147483647))) (dst sc (.int many) ds seed s4 s5 (.fz (.int (0 + (k : Int))))) = .nx (dst sc (.int many) ds seed1 s4 s5 (.fz (.int (0 + (k : Int))))) := by
      rw [← hS]
      simp [sSet, mBI, mArgs, mVar, dst, mOp2, mC, dMul_r, dMod_i]
    simp only [sIf, ht, thenF_ok, if_true, sSeq, e2]
    refine ⟨ds ++ [seed1 / 7 % 65521], seed1, _, (app_go (ds := ds) (d := seed1 / 7 % 65521) rfl (by simp [mOp2, mBI, mArgs, mVar, dst, mC, dMod_i, dDiv_i]) (by omega)).trans rfl, hd.snoc (by omega) (by omega), by simp [hm], hs⟩
  · have ht : mT (mOp2 dLtX (mBI dLenX [(mVarB 2)]) (mVar 1)) (dst sc (.int many) ds seed s4 s5 (.fz (.int (0 + (k : Int))))) = ok false := by
      simp [mT, mOp2, mBI, mArgs, mVarB, mVar, dst, hm]
    simp only [sIf, ht, thenF_ok, if_false, Bool.false_eq_true, sNx]
    exact ⟨ds, seed, _, rfl, hd, by rw [if_neg hm], h0⟩
theorem draws_ok (ns : List Int) (many : Nat) (hm : many ≤ 1000) : ∃ ds : List Int, F__law_draws [.kl (ns.map .int), .int many] = ok (.lst (ds.map .int)) ∧ ds.length = many ∧ Drawn ds := by
  let sc : D := .kl (ns.map .int)
  have e1 : sSetO 2 (mLst []) (startS 7 [sc, .int many]) = .nx [.fz sc, .fz (.int many), .ow (.lst []), .no, .no, .no, .no] := rfl
  have e2 : sSet 3 (mC (.int 7)) [.fz sc, .fz (.int many), .ow (.lst []), .no, .no, .no, .no] = .nx (dst sc (.int many) [] 7 .no .no .no) := rfl
  have ei : mIt (mSl dSl (mVar 0) mNoPart (mPart (mC (.int 63)))) (dst sc (.int many) [] 7 .no .no .no) = ok ((ns.take 63).map .int) := by
    have : dSl sc none (some 63) = some (.lst ((ns.take 63).map .int)) := by
      show some (D.lst (cutD (ns.map .int) none (some 63))) = _
      rw [cutD_to (by decide), ← List.map_take]
      rfl
    simp [mIt, mSl, mVar, dst, mNoPart, mPart, mC, this, items]
  obtain ⟨ρ1, f1, ds1, seed1, s4, s5, s6, r1, r2, r3, r4⟩ := forL_inv (xs := (ns.take 63).map .int) (i := 0) (ρ := dst sc (.int many) [] 7 .no .no .no)
    (step := fun x ρ => thenF (tgName 4 x ρ).quiet ρ (sSeq (sSet 5 (mBI dAbs [(mVar 4)]))
    (sSeq (sSet 3 (mOp2 dMod (mBI dInt [(mOp2 dAdd (mOp2 dAdd (mOp2 dMulX (mVar 3) (mC (.int 48271))) (mVar 5)) (mC (.int 11)))]) (mC (.int 2147483647))))
    (sIf (mT (mOp2 dGeX (mVar 5) (mOp2 dPow (mC (.int 10)) (mC (.int 18))))) (sFor (mRng rng1 [(mC (.int 60))]) (tgName 6)
    (sIf (mT (mOp2 dGtX (mVar 5) (mC (.int 0)))) (sSeq (sApp 2 (mOp2 dMod (mBI dInt [(mVar 5)]) (mC (.int 1009))))
    (sSet 5 (mOp2 dDiv (mVar 5) (mC (.int 1009))))) sNx)) (sApp 2 (mOp2 dMod (mOp2 dDiv (mBI dInt [(mOp2 dAdd (mOp2 dMulX (mVar 3) (mC (.int 16807))) (mC (.int 5)))]) (mC (.int 3))) (mC (.int 65521))))))))
    (R := fun i ρ => ∃ ds seed s4 s5 s6, ρ = dst sc (.int many) ds seed s4 s5 s6 ∧ Drawn ds ∧ ds.length ≤ 60 * i ∧ 0 ≤ seed) (fun j x ρ hx ⟨ds, seed, s4, s5, s6, e, h1, h2, h3⟩ => by
      have hj : j < 63 := by
        have := (List.getElem?_eq_some_iff.mp hx).1
        simp at this
        omega
      rw [List.getElem?_map] at hx
      obtain ⟨c, hc, rfl⟩ := Option.map_eq_some_iff.mp hx
      subst e
      obtain ⟨ds', seed', s4', s5', s6', q, q1, q2, q3⟩ := draws_step (sc := sc) (many := .int many) ds seed c s4 s5 s6 h1 (by omega) h3
      exact ⟨_, .inl q, ds', seed', s4', s5', s6', rfl, q1, by omega, q3⟩) ⟨[], 7, .no, .no, .no, rfl, fun d h => by simp at h, by simp, by decide⟩
  have hl : ds1.length ≤ 60 * 63 := by
    have : ((ns.take 63).map D.int).length ≤ 63 := by simp; omega
    omega
  have er : mRng rng1 [(mVar 1)] (dst sc (.int many) ds1 seed1 s4 s5 s6) = ok (rangeD 0 many) := by
    have : rng1 [.int (many : Int)] = some (rangeD 0 many) := by
      show (if (many : Int) ≤ 1000000 ∧ -1000000 ≤ (many : Int) then some (rangeD 0 (many : Int).toNat) else none) = _
      rw [if_pos (by omega)]
      rfl
    simp [mRng, mArgs, mVar, dst, this]
  obtain ⟨ρ2, f2, ds2, seed2, t6, w1, w2, w3, w4, w5⟩ := forL_inv (xs := rangeD 0 many) (i := 0) (ρ := dst sc (.int many) ds1 seed1 s4 s5 s6)
    (step := fun x ρ => thenF (tgName 6 x ρ).quiet ρ (sIf (mT (mOp2 dLtX (mBI dLenX [(mVarB 2)]) (mVar 1))) (sSeq (sSet 3 (mOp2 dMod (mBI dInt [(mOp2 dAdd (mOp2 dAdd (mOp2 dMulX (mVar 3) (mC (.int 69621))) (mVar 6)) (mC (.int 1)))]) (mC (.int 2147483647))))
    (sApp 2 (mOp2 dMod (mOp2 dDiv (mBI dInt [(mVar 3)]) (mC (.int 7))) (mC (.int 65521))))) sNx))
    (R := fun i ρ => ∃ ds seed s6, ρ = dst sc (.int many) ds seed s4 s5 s6 ∧ Drawn ds ∧ (i ≤ ds.length ∨ many ≤ ds.length) ∧ ds.length ≤ max ds1.length many ∧ 0 ≤ seed) (fun j x ρ hx ⟨ds, seed, s6, e, h1, h2, h3, h4⟩ => by
      rw [rangeD_map, List.getElem?_map] at hx
      obtain ⟨c, hc, rfl⟩ := Option.map_eq_some_iff.mp hx
      subst e
      obtain ⟨ds', seed', s6', q, q1, q2, q3⟩ := draws_step2 (sc := sc) many ds seed c s4 s5 s6 h1 (by have := Nat.max_le.mpr ⟨(by omega : ds1.length ≤ 10000), (by omega : many ≤ 10000)⟩; omega) h4
      refine ⟨_, .inl q, ds', seed', s6', rfl, q1, ?_, ?_, q3⟩
      · split at q2 <;> omega
      · have a1 := Nat.le_max_right ds1.length many
        split at q2 <;> omega) ⟨ds1, seed1, s6, rfl, r2, .inl (Nat.zero_le _), Nat.le_max_left _ _, r4⟩
  have hlen : many ≤ ds2.length := by
    have : (rangeD 0 many).length = many := by simp [rangeD]
    rw [this] at w3
    omega
  refine ⟨ds2.take many, ?_, by simp; omega, fun d hd => w2 d (List.mem_of_mem_take hd)⟩
  refine runF_rt ?_
  have eb : b__law_draws (startS 7 [sc, .int many]) = .rt (.lst ((ds2.take many).map .int)) := by
    unfold b__law_draws
    simp only [sSeq, e1, e2, sFor, ei, thenF_ok, f1, r1, er, f2, w1]
    have : dSl (.lst (ds2.map .int)) none (some (many : Int)) = some (.lst ((ds2.take many).map .int)) := by
      show some (D.lst (cutD (ds2.map .int) none (some (many : Int)))) = _
      rw [cutD_to (by omega), ← List.map_take]
      rfl
    simp [sRet, mSl, mVarB, mVar, dst, mNoPart, mPart, this]
  exact eb
end W
end PP

namespace PP
open PySem L2
open Res (ok exc bad)
section
variable {ρ : Sls} {f g : Sls → Res D} {d : D} {i : Nat}
theorem var_ev (h : ρ[i]? = some (.fz d)) : mVar i ρ = ok d := by
  unfold mVar
  rw [h]
theorem varB_fz (h : ρ[i]? = some (.fz d)) : mVarB i ρ = ok d := by
  unfold mVarB
  rw [h]
theorem varB_ow (h : ρ[i]? = some (.ow d)) : mVarB i ρ = ok d := by
  unfold mVarB
  rw [h]
theorem varB_me {a : Addr} (h : ρ[i]? = some (.me a d)) : mVarB i ρ = ok d := by
  unfold mVarB
  rw [h]
theorem c_ev : mC d ρ = ok d := rfl
theorem makeE_ev {F : List D → Res D} {fs : List (Sls → Res D)} {as : List D} {r : Res D} (w1 : mArgs fs ρ = ok as) (e : F as = r) : mMakeE F fs ρ = r := by
  unfold mMakeE
  rw [w1, Res.ok_bind, e]
theorem fld_ev {cs : List Str} {a c : Str} {gs : List (Str × D)} (w : f ρ = ok (.obj c gs)) (h : mFld cs a f ρ = ok d) : mFld cs a f ρ = ok d := h
end
end PP

namespace PP
open PySem L2
open Res (ok exc bad)
theorem toPDs_map {α : Type} {e : α → D} {q : α → PyData} : ∀ {as : List α}, (∀ a ∈ as, toPD (e a) = some (q a)) → toPDs (as.map e) = some (as.map q)
  | [], _ => by simp [toPDs]
  | a :: as, h => by
    simp only [List.map_cons, toPDs]
    rw [h a (by simp), toPDs_map fun x hx => h x (by simp [hx])]
    rfl
theorem zip_map2 {α β γ : Type} {e : α → β} {q : α → γ} : ∀ {as : List α}, (as.map e).zip (as.map q) = as.map fun a => (e a, q a)
  | [] => rfl
  | a :: as => by simp only [List.map_cons, List.zip_cons_cons, zip_map2]
theorem sortD_map {α : Type} {e : α → D} {q : α → PyData} {le : α → α → Bool} {as : List α} (hle : ∀ a ∈ as, ∀ b ∈ as, le a b = PySem.W.dataLe false (fun b : D × PyData => b.2) (e a, q a) (e b, q b)) : sortD (as.map e) (as.map q) = (as.mergeSort le).map e := by
  unfold sortD
  rw [zip_map2, ← List.map_mergeSort (r := le) (f := fun a => (e a, q a)) hle, List.map_map]
  rfl
theorem dSortedX_map {α : Type} {e : α → D} {q : α → PyData} {le : α → α → Bool} {as : List α} (h1 : ∀ a ∈ as, toPD (e a) = some (q a)) (h2 : sortOk (as.map q) = true) (hle : ∀ a ∈ as, ∀ b ∈ as, le a b = PySem.W.dataLe false (fun b : D × PyData => b.2) (e a, q a) (e b, q b)) :
    dSortedX [.lst (as.map e)] = some (.lst ((as.mergeSort le).map e)) := by
  show ((toPDs (as.map e)).bind fun ps => if sortOk ps then some (D.lst (sortD (as.map e) ps)) else none) = _
  rw [toPDs_map h1, Option.bind_some, if_pos h2, sortD_map hle]
/-! pairs of numbers -/
def qP (a : Int × Int) : PyData := .tuple [.int a.1, .int a.2]
theorem toPD_ptQ (a : Int × Int) : toPD (pt a) = some (qP a) := by
  simp [pt, qP, toPD, toPDs]
theorem leP_data (a b : Int × Int) : leP a b = PySem.W.dataLe false qP a b := by
  have := congrFun (congrFun (PySem.W.dataLe_ii (β := Int × Int) (fun a => a.1) (fun a => a.2)) a) b
  exact this.symm
theorem sortOk_pt (as : List (Int × Int)) : sortOk (as.map qP) = true := by
  unfold sortOk
  simp only [Bool.and_eq_true, Bool.or_eq_true, List.all_eq_true, decide_eq_true_eq]
  refine ⟨⟨fun x hx y hy => ?_, .inl fun x hx => ?_⟩, fun x hx => ?_⟩
  · obtain ⟨a, _, rfl⟩ := List.mem_map.mp hx
    obtain ⟨b, _, rfl⟩ := List.mem_map.mp hy
    rfl
  · obtain ⟨a, _, rfl⟩ := List.mem_map.mp hx
    rfl
  · obtain ⟨a, _, rfl⟩ := List.mem_map.mp hx
    simp [qP, PyData.depth, PyData.depthAll]
theorem sorted_pt (as : List (Int × Int)) : dSortedX [.lst (as.map pt)] = some (.lst ((as.mergeSort leP).map pt)) :=
  dSortedX_map (q := qP) (fun a _ => toPD_ptQ a) (sortOk_pt as) fun a _ b _ => leP_data a b
/-! a pair of numbers and a number -/
abbrev ph (a : (Int × Int) × Int) : D := .tup [pt a.1, .int a.2]
def qH (a : (Int × Int) × Int) : PyData := .tuple [qP a.1, .int a.2]
theorem toPD_phQ (a : (Int × Int) × Int) : toPD (ph a) = some (qH a) := by
  simp [ph, qH, qP, toPD, toPDs]
theorem eqv_qP (a b : Int × Int) : PyData.eqv (qP a) (qP b) = decide (a = b) := by
  unfold qP
  simp only [PyData.eqv, PyData.eqvAll, Prod.ext_iff, Bool.and_true]
  by_cases h1 : a.1 = b.1 <;> by_cases h2 : a.2 = b.2 <;> simp [h1, h2]
theorem leH_data (a b : (Int × Int) × Int) : leH a b = PySem.W.dataLe false qH a b := by
  rw [PySem.W.dataLe_eq]
  show _ = !PySem.W.dataLt (qH b) (qH a)
  unfold qH
  rw [PySem.W.dataLt_pair (by rfl) (by rfl), eqv_qP]
  unfold leH
  by_cases h : a.1 = b.1
  · rw [if_pos h, if_pos (by simp [h])]
    rw [PySem.W.dataLt_int]
    simp only [PyData.eqv, beq_iff_eq]
    by_cases e : b.2 = a.2
    · rw [if_pos e, e]; simp
    · rw [if_neg e]
      by_cases l : a.2 ≤ b.2
      · simp [l, show ¬ b.2 < a.2 by omega]
      · simp [l, show b.2 < a.2 by omega]
  · rw [if_neg h, if_neg (by simp; exact fun e => h e.symm)]
    exact leP_data a.1 b.1
theorem sortOk_ph (as : List ((Int × Int) × Int)) : sortOk (as.map qH) = true := by
  unfold sortOk
  simp only [Bool.and_eq_true, Bool.or_eq_true, List.all_eq_true, decide_eq_true_eq]
  refine ⟨⟨fun x hx y hy => ?_, .inl fun x hx => ?_⟩, fun x hx => ?_⟩
  · obtain ⟨a, _, rfl⟩ := List.mem_map.mp hx
    obtain ⟨b, _, rfl⟩ := List.mem_map.mp hy
    rfl
  · obtain ⟨a, _, rfl⟩ := List.mem_map.mp hx
    rfl
  · obtain ⟨a, _, rfl⟩ := List.mem_map.mp hx
    simp [qH, qP, PyData.depth, PyData.depthAll]
theorem sorted_ph (as : List ((Int × Int) × Int)) : dSortedX [.lst (as.map ph)] = some (.lst ((as.mergeSort leH).map ph)) :=
  dSortedX_map (q := qH) (fun a _ => toPD_phQ a) (sortOk_ph as) fun a _ b _ => leH_data a b
end PP

namespace PP
open PySem L2
open Res (ok exc bad)
/-! ### data that is equal to itself -/
mutual
theorem eqv_self : ∀ (d : D) {p : PyData}, toPD d = some p → PyData.eqv p p = true
  | .non, _, e => by simp [toPD] at e; subst e; simp [PyData.eqv]
  | .bl _, _, e => by simp [toPD] at e; subst e; simp [PyData.eqv]
  | .int _, _, e => by simp [toPD] at e; subst e; simp [PyData.eqv]
  | .str _, _, e => by simp [toPD] at e; subst e; simp [PyData.eqv]
  | .ty _, _, e => by simp [toPD] at e
  | .obj _ _, _, e => by simp [toPD] at e
  | .dct _, _, e => by simp [toPD] at e
  | .tup xs, _, e => by
    simp only [toPD, Option.map_eq_some_iff] at e
    obtain ⟨ps, e1, rfl⟩ := e
    simpa [PyData.eqv] using eqvs_self xs e1
  | .lst xs, _, e => by
    simp only [toPD, Option.map_eq_some_iff] at e
    obtain ⟨ps, e1, rfl⟩ := e
    simpa [PyData.eqv] using eqvs_self xs e1
  | .kl xs, _, e => by
    simp only [toPD, Option.map_eq_some_iff] at e
    obtain ⟨ps, e1, rfl⟩ := e
    simpa [PyData.eqv] using eqvs_self xs e1
theorem eqvs_self : ∀ (ds : List D) {ps : List PyData}, toPDs ds = some ps → PyData.eqvAll ps ps = true
  | [], _, e => by simp [toPDs] at e; subst e; simp [PyData.eqvAll]
  | d :: ds, _, e => by
    simp only [toPDs, Option.bind_eq_some_iff, Option.map_eq_some_iff] at e
    obtain ⟨p, e1, ps, e2, rfl⟩ := e
    simp [PyData.eqvAll, eqv_self d e1, eqvs_self ds e2]
end
/-- plain data, at most n deep -/
def Dat (n : Nat) (d : D) : Prop := ∃ p, toPD d = some p ∧ Sh n p
theorem dats {n : Nat} : ∀ {ds : List D}, (∀ d ∈ ds, Dat n d) → ∃ ps, toPDs ds = some ps ∧ ∀ p ∈ ps, Sh n p
  | [], _ => ⟨[], by simp [toPDs], fun _ h => by simp at h⟩
  | d :: ds, h => by
    obtain ⟨p, e, s⟩ := h d (by simp)
    obtain ⟨ps, e2, s2⟩ := dats (ds := ds) fun x hx => h x (by simp [hx])
    exact ⟨p :: ps, by simp [toPDs, e, e2], fun q hq => by
      rcases List.mem_cons.mp hq with r | r
      · rw [r]; exact s
      · exact s2 q r⟩
theorem Dat.int {n : Nat} (i : Int) : Dat n (.int i) := ⟨.int i, by simp [toPD], .int i⟩
theorem Dat.bl {n : Nat} (i : Bool) : Dat n (.bl i) := ⟨.bool i, by simp [toPD], by simp [PyData.canLay0], by simp [PyData.depth]⟩
theorem Dat.str {n : Nat} (i : Str) (h : PyData.strOk i = true) : Dat n (.str i) := ⟨.str i, by simp [toPD], by simp [PyData.canLay0, h], by simp [PyData.depth]⟩
theorem Dat.non {n : Nat} : Dat n .non := ⟨.none, by simp [toPD], by simp [PyData.canLay0], by simp [PyData.depth]⟩
theorem Dat.tup {n : Nat} {ds : List D} (h : ∀ d ∈ ds, Dat n d) : Dat (n + 1) (.tup ds) := by
  obtain ⟨ps, e, s⟩ := dats h
  exact ⟨.tuple ps, by simp [toPD, e], .tup s⟩
theorem Dat.lst {n : Nat} {ds : List D} (h : ∀ d ∈ ds, Dat n d) : Dat (n + 1) (.lst ds) := by
  obtain ⟨ps, e, s⟩ := dats h
  exact ⟨.list ps, by simp [toPD, e], .lst s⟩
theorem Dat.more {n m : Nat} {d : D} (h : Dat n d) (l : n ≤ m) : Dat m d := by
  obtain ⟨p, e, s⟩ := h
  exact ⟨p, e, s.1, Nat.le_trans s.2 l⟩
theorem all_nil {α : Type} {P : α → Prop} : ∀ a ∈ ([] : List α), P a := fun _ h => by simp at h
theorem all_cons {α : Type} {P : α → Prop} {a : α} {l : List α} (h : P a) (t : ∀ x ∈ l, P x) : ∀ x ∈ a :: l, P x := fun x hx => by
  rcases List.mem_cons.mp hx with e | e
  · rw [e]; exact h
  · exact t x e
theorem all_map {α β : Type} {P : β → Prop} {f : α → β} {l : List α} (h : ∀ a, P (f a)) : ∀ x ∈ l.map f, P x := fun x hx => by
  obtain ⟨a, _, rfl⟩ := List.mem_map.mp hx
  exact h a
theorem Dat.pt {n : Nat} (p : Int × Int) : Dat (n + 1) (pt p) := .tup (all_cons (.int _) (all_cons (.int _) all_nil))
theorem Dat.ph {n : Nat} (p : (Int × Int) × Int) : Dat (n + 2) (ph p) := .tup (all_cons (.pt _) (all_cons (.int _) all_nil))
theorem deepEq_self {n : Nat} {d : D} (h : Dat n d) (hn : n ≤ 64) : deepEq d d = some true := by
  obtain ⟨p, e, s⟩ := h
  unfold deepEq
  rw [e, Option.bind_some, Option.bind_some, s.shaped hn, Bool.and_self, if_pos rfl, eqv_self d e]
theorem dEq_selfT {n : Nat} {xs : List D} (h : Dat n (.tup xs)) (hn : n ≤ 64 := by decide) : dEq (.tup xs) (.tup xs) = some (.bl true) := by
  show (deepEq (.tup xs) (.tup xs)).map D.bl = _
  rw [deepEq_self h hn]
  rfl
theorem dEq_selfL {n : Nat} {xs : List D} (h : Dat n (.lst xs)) (hn : n ≤ 64 := by decide) : dEq (.lst xs) (.lst xs) = some (.bl true) := by
  show (deepEq (.lst xs) (.lst xs)).map D.bl = _
  rw [deepEq_self h hn]
  rfl
theorem dNe_selfT {n : Nat} {xs : List D} (h : Dat n (.tup xs)) (hn : n ≤ 64 := by decide) : dNe (.tup xs) (.tup xs) = some (.bl false) := by
  unfold dNe
  rw [dEq_selfT h hn]
  rfl
theorem dNe_selfL {n : Nat} {xs : List D} (h : Dat n (.lst xs)) (hn : n ≤ 64 := by decide) : dNe (.lst xs) (.lst xs) = some (.bl false) := by
  unfold dNe
  rw [dEq_selfL h hn]
  rfl
/-! ### in -/
theorem inSeq_some {n : Nat} {d : D} {xs : List D} (h : Dat n d) (hs : ∀ x ∈ xs, Dat n x) (hn : n + 1 ≤ 64 := by decide) : ∃ b, inSeq d xs = some b := by
  obtain ⟨p, e, s⟩ := h
  obtain ⟨ps, e2, s2⟩ := dats hs
  refine ⟨ps.any fun z => PyData.eqv z p, ?_⟩
  unfold inSeq
  rw [e, e2, Option.bind_some, Option.bind_some, s.shaped (by omega), (Sh.lst s2).shaped hn, Bool.and_self, if_pos rfl]
theorem inSeq_map {α : Type} {e : α → D} {q : α → PyData} {n : Nat} {a : α} {as : List α} {k : Bool} (h1 : ∀ a, toPD (e a) = some (q a)) (h2 : ∀ a, Sh n (q a)) (h3 : ∀ a b, PyData.eqv (q a) (q b) = true ↔ a = b) (hn : n + 1 ≤ 64) (hk : k = true ↔ a ∈ as) : inSeq (e a) (as.map e) = some k := by
  unfold inSeq
  rw [h1, toPDs_map fun a _ => h1 a, Option.bind_some, Option.bind_some, (h2 a).shaped (by omega), (Sh.lst (n := n) fun d hd => by
    obtain ⟨x, _, rfl⟩ := List.mem_map.mp hd
    exact h2 x).shaped hn, Bool.and_self, if_pos rfl, List.any_map]
  congr 1
  rw [Bool.eq_iff_iff, List.any_eq_true, hk]
  constructor
  · rintro ⟨x, hx, e⟩
    exact (h3 x a).mp e ▸ hx
  · intro h
    exact ⟨a, h, (h3 a a).mpr rfl⟩
theorem sh_qP (a : Int × Int) : Sh 1 (qP a) := Sh.tup (all_cons (.int _) (all_cons (.int _) all_nil))
theorem sh_qH (a : (Int × Int) × Int) : Sh 2 (qH a) := Sh.tup (all_cons (sh_qP _) (all_cons (.int _) all_nil))
theorem eqv_qH (a b : (Int × Int) × Int) : PyData.eqv (qH a) (qH b) = decide (a = b) := by
  unfold qH
  simp only [PyData.eqv, PyData.eqvAll, Bool.and_true, eqv_qP]
  rw [Bool.eq_iff_iff]
  simp [Prod.ext_iff]
theorem in_pt (p : Int × Int) (ps : List (Int × Int)) : inSeq (pt p) (ps.map pt) = some (decide (p ∈ ps)) := inSeq_map (q := qP) toPD_ptQ sh_qP (fun a b => by rw [eqv_qP, decide_eq_true_eq]) (by decide) decide_eq_true_iff
theorem in_ph (p : (Int × Int) × Int) (ps : List ((Int × Int) × Int)) : inSeq (ph p) (ps.map ph) = some (decide (p ∈ ps)) := inSeq_map (q := qH) toPD_phQ sh_qH (fun a b => by rw [eqv_qH, decide_eq_true_eq]) (by decide) decide_eq_true_iff
theorem inX_lst {d : D} {xs : List D} {b : Bool} (h : inSeq d xs = some b) : dInX d (.lst xs) = some (.bl b) := by
  cases d <;> first | (show (inSeq _ xs).map D.bl = _; rw [h]; rfl) | (simp [inSeq, toPD] at h)
theorem inX_tup {d : D} {xs : List D} {b : Bool} (h : inSeq d xs = some b) : dInX d (.tup xs) = some (.bl b) := by
  cases d <;> first | (show (inSeq _ xs).map D.bl = _; rw [h]; rfl) | (simp [inSeq, toPD] at h)
theorem notX_lst {d : D} {xs : List D} {b : Bool} (h : inSeq d xs = some b) : dNotInX d (.lst xs) = some (.bl (!b)) := by
  have : dIn d (.lst xs) = some (.bl b) := inX_lst h
  show dNotIn d (.lst xs) = _
  unfold dNotIn
  rw [this]
theorem notX_tup {d : D} {xs : List D} {b : Bool} (h : inSeq d xs = some b) : dNotInX d (.tup xs) = some (.bl (!b)) := by
  have : dIn d (.tup xs) = some (.bl b) := inX_tup h
  show dNotIn d (.tup xs) = _
  unfold dNotIn
  rw [this]
/-! ### dicts whose keys are pairs -/
def kP (p : Int × Int) : NestedKey := .tup [.num p.1, .num p.2]
theorem kP_inj {p q : Int × Int} : kP p = kP q ↔ p = q := ⟨fun h => by
  unfold kP at h
  injection h with h
  injection h with h1 h
  injection h with h2 h
  injection h1 with h1
  injection h2 with h2
  exact Prod.ext h1 h2, fun h => by rw [h]⟩
theorem keyD_pt (p : Int × Int) : keyD (pt p) = some (kP p) := by simp [keyD, keyD.keyDs, kP]
theorem keyT_pt (p : Int × Int) : keyT (pt p) = some (kP p) := by
  show ((keyD (pt p)).bind fun k => if k.depth ≤ 8 then some k else none) = _
  rw [keyD_pt, Option.bind_some, if_pos (by simp [kP, NestedKey.depth, NestedKey.depthAll])]
theorem keysOk_pt {g : Int × Int → D} (ps : List (Int × Int)) : keysOk (ps.map fun p => (pt p, g p)) = true := by
  unfold keysOk
  rw [List.all_map]
  exact List.all_eq_true.mpr fun p _ => by simp [keyT_pt]
theorem lookD_pt {g : Int × Int → D} (p : Int × Int) : ∀ ps : List (Int × Int), lookD (ps.map fun p => (pt p, g p)) (kP p) = if p ∈ ps then some (g p) else none
  | [] => rfl
  | a :: ps => by
    have ih := lookD_pt (g := g) p ps
    unfold lookD at ih ⊢
    rw [List.map_cons, List.find?_cons, keyD_pt]
    by_cases e : a = p
    · subst e
      rw [decide_eq_true rfl, if_pos (by simp)]
      rfl
    · rw [decide_eq_false (fun z => e (kP_inj.mp (Option.some.inj z)))]
      simp only [ih, List.mem_cons]
      by_cases m : p ∈ ps
      · rw [if_pos m, if_pos (.inr m)]
      · rw [if_neg m, if_neg (by rintro (z | z); exact e z.symm; exact m z)]
theorem inX_dct {g : Int × Int → D} (p : Int × Int) (ps : List (Int × Int)) : dInX (pt p) (.dct (ps.map fun p => (pt p, g p))) = some (.bl (decide (p ∈ ps))) := by
  show ((keyT (pt p)).bind fun k => if keysOk (ps.map fun p => (pt p, g p)) then some (D.bl (false ^^ (lookD (ps.map fun p => (pt p, g p)) k).isSome)) else none) = _
  rw [keyT_pt, Option.bind_some, if_pos (keysOk_pt ps), lookD_pt]
  by_cases m : p ∈ ps
  · rw [if_pos m, decide_eq_true m]; rfl
  · rw [if_neg m, decide_eq_false m]; rfl
theorem notX_dct {g : Int × Int → D} (p : Int × Int) (ps : List (Int × Int)) : dNotInX (pt p) (.dct (ps.map fun p => (pt p, g p))) = some (.bl (!decide (p ∈ ps))) := by
  show ((keyT (pt p)).bind fun k => if keysOk (ps.map fun p => (pt p, g p)) then some (D.bl (true ^^ (lookD (ps.map fun p => (pt p, g p)) k).isSome)) else none) = _
  rw [keyT_pt, Option.bind_some, if_pos (keysOk_pt ps), lookD_pt]
  by_cases m : p ∈ ps
  · rw [if_pos m, decide_eq_true m]; rfl
  · rw [if_neg m, decide_eq_false m]; rfl
theorem ixX_dct {g : Int × Int → D} {p : Int × Int} {ps : List (Int × Int)} (m : p ∈ ps) : dIxX (.dct (ps.map fun p => (pt p, g p))) (pt p) = some (g p) := by
  show ((keyT (pt p)).bind fun k => if keysOk (ps.map fun p => (pt p, g p)) then lookD (ps.map fun p => (pt p, g p)) k else none) = _
  rw [keyT_pt, Option.bind_some, if_pos (keysOk_pt ps), lookD_pt, if_pos m]
theorem put_pt {ρ : Sls} {i : Nat} {f g : Sls → Res D} {p : Int × Int} {ps : List (Int × Int)} {k : Int × Int → D} (h : ρ[i]? = some (.ow (.dct (ps.map fun p => (pt p, k p))))) (hf : f ρ = ok (pt p)) (hg : g ρ = ok (k p)) (hn : p ∉ ps) (hl : ps.length ≤ 1000000) :
    sPut i f g ρ = .nx (ρ.set i (.ow (.dct ((ps ++ [p]).map fun p => (pt p, k p))))) := by
  unfold sPut
  rw [h]
  show thenF (g ρ) ρ _ = _
  rw [hg, thenF_ok, hf, thenF_ok, keyT_pt]
  simp only []
  rw [if_pos ⟨keysOk_pt ps, by rw [List.length_map]; have := size1000; omega⟩]
  unfold putD
  rw [lookD_pt, if_neg hn, if_neg (by simp), List.map_append]
  rfl
theorem disp1_pt {ρ : Sls} {f g : Sls → Res D} {p : Int × Int} {v : D} (hf : f ρ = ok (pt p)) (hg : g ρ = ok v) : mDisp1 f g ρ = ok (.dct [(pt p, v)]) := by
  unfold mDisp1
  rw [hf, Res.ok_bind, hg, Res.ok_bind, keyT_pt]
  exact if_pos rfl
theorem sorted_dct {g : Int × Int → D} (ps : List (Int × Int)) : dSortedX [.dct (ps.map fun p => (pt p, g p))] = some (.lst ((ps.mergeSort leP).map pt)) := by
  have : (ps.map fun p => (pt p, g p)).map (·.1) = ps.map pt := by rw [List.map_map]; rfl
  show ((toPDs ((ps.map fun p => (pt p, g p)).map (·.1))).bind fun qs => if sortOk qs then some (D.lst (sortD ((ps.map fun p => (pt p, g p)).map (·.1)) qs)) else none) = _
  rw [this]
  exact sorted_pt ps
/-! ### < of pairs, and the least -/
theorem leP_data' (a b : Int × Int) : PySem.W.dataLt (qP a) (qP b) = !leP b a := by
  have := leP_data b a
  rw [PySem.W.dataLe_eq] at this
  rw [this]
  show PySem.W.dataLt (qP a) (qP b) = !!PySem.W.dataLt (qP a) (qP b)
  rw [Bool.not_not]
theorem alike_qP (a b : Int × Int) : PySem.W.alike (qP a) (qP b) = true := rfl
theorem dLtX_pt (a b : Int × Int) : dLtX (pt a) (pt b) = some (.bl (!leP b a)) := by
  show cmpD cLt (pt a) (pt b) = _
  unfold cmpD
  rw [toPD_ptQ, toPD_ptQ, Option.bind_some, Option.bind_some, alike_qP, if_pos (by simp [qP, isNone, PyData.depth, PyData.depthAll])]
  show some (D.bl (PySem.W.dataLt (qP a) (qP b))) = _
  rw [leP_data']
theorem best_ok (l : List (Int × Int)) (tot : ∀ a b, (leP a b || leP b a) = true) (tr : ∀ a b c, leP a b = true → leP b c = true → leP a c = true) : ∀ k, k < l.length → argBest (btP (l.map qP)) k ≤ k ∧ ∀ j, j ≤ k → leP (l.getD (argBest (btP (l.map qP)) k) (0, 0)) (l.getD j (0, 0)) = true
  | 0, h => ⟨Nat.le_refl _, fun j hj => by
    have := tot (l.getD 0 (0, 0)) (l.getD 0 (0, 0))
    rw [Bool.or_self] at this
    rw [show j = 0 by omega]
    exact this⟩
  | k + 1, h => by
    obtain ⟨h1, h2⟩ := best_ok l tot tr k (by omega)
    have q : ∀ i, i < l.length → (l.map qP).getD i .none = qP (l.getD i (0, 0)) := fun i hi => by
      rw [List.getD_eq_getElem?_getD, List.getD_eq_getElem?_getD, List.getElem?_map, List.getElem?_eq_getElem hi]
      rfl
    have e : btP (l.map qP) (k + 1) (argBest (btP (l.map qP)) k) = !leP (l.getD (argBest (btP (l.map qP)) k) (0, 0)) (l.getD (k + 1) (0, 0)) := by
      show PySem.W.dataLt _ _ = _
      rw [q _ h, q _ (by omega), leP_data']
    show (if btP (l.map qP) (k + 1) (argBest (btP (l.map qP)) k) = true then k + 1 else argBest (btP (l.map qP)) k) ≤ k + 1 ∧ ∀ j, j ≤ k + 1 → leP (l.getD (if btP (l.map qP) (k + 1) (argBest (btP (l.map qP)) k) = true then k + 1 else argBest (btP (l.map qP)) k) (0, 0)) (l.getD j (0, 0)) = true
    rw [e]
    cases c : leP (l.getD (argBest (btP (l.map qP)) k) (0, 0)) (l.getD (k + 1) (0, 0)) with
    | true =>
      rw [if_neg (by simp)]
      refine ⟨by omega, fun j hj => ?_⟩
      by_cases hj' : j = k + 1
      · rw [hj']; exact c
      · exact h2 j (by omega)
    | false =>
      rw [if_pos (by simp)]
      have t := tot (l.getD (argBest (btP (l.map qP)) k) (0, 0)) (l.getD (k + 1) (0, 0))
      rw [c, Bool.false_or] at t
      refine ⟨by omega, fun j hj => ?_⟩
      by_cases hj' : j = k + 1
      · rw [hj']
        have := tot (l.getD (k + 1) (0, 0)) (l.getD (k + 1) (0, 0))
        rwa [Bool.or_self] at this
      · exact tr _ _ _ t (h2 j (by omega))
/-- min of a dict's keys: the head of the sorted list -/
theorem min_dct {g : Int × Int → D} {l : List (Int × Int)} (hne : l ≠ []) (tot : ∀ a b, (leP a b || leP b a) = true) (tr : ∀ a b c, leP a b = true → leP b c = true → leP a c = true) :
    ∃ m, dMinD [.dct (l.map fun p => (pt p, g p))] = some (pt m) ∧ m ∈ l ∧ ∀ x ∈ l, leP m x = true := by
  have hl : 0 < l.length := List.length_pos_iff.mpr hne
  obtain ⟨h1, h2⟩ := best_ok l tot tr (l.length - 1) (by omega)
  have hi : argBest (btP (l.map qP)) (l.length - 1) < l.length := by omega
  refine ⟨l.getD (argBest (btP (l.map qP)) (l.length - 1)) (0, 0), ?_, ?_, fun x hx => ?_⟩
  · have : (l.map fun p => (pt p, g p)).map (·.1) = l.map pt := by rw [List.map_map]; rfl
    unfold dMinD
    simp only [this]
    rw [toPDs_map fun a _ => toPD_ptQ a, Option.bind_some, if_pos, List.getElem?_map, List.length_map, List.getD_eq_getElem?_getD, List.getElem?_eq_getElem hi]
    · rfl
    · rw [Bool.and_eq_true, Bool.and_eq_true]
      refine ⟨⟨List.all_eq_true.mpr fun x hx => List.all_eq_true.mpr fun y hy => ?_, List.all_eq_true.mpr fun x hx => ?_⟩, ?_⟩
      · obtain ⟨a, _, rfl⟩ := List.mem_map.mp hx
        obtain ⟨b, _, rfl⟩ := List.mem_map.mp hy
        rfl
      · obtain ⟨a, _, rfl⟩ := List.mem_map.mp hx
        rfl
      · refine decide_eq_true (Nat.le_trans (sh_all (n := 1) fun d hd => ?_).2 (by decide))
        obtain ⟨a, _, rfl⟩ := List.mem_map.mp hd
        exact sh_qP a
  · rw [List.getD_eq_getElem?_getD, List.getElem?_eq_getElem hi]
    exact List.getElem_mem hi
  · obtain ⟨j, hj, rfl⟩ := List.getElem_of_mem hx
    have := h2 j (by omega)
    rwa [List.getD_eq_getElem?_getD (i := j), List.getElem?_eq_getElem hj, Option.getD_some] at this
end PP

namespace PP
open PySem L2
open Res (ok exc bad)
/-! ### dicts whose keys are written in any way that keeps them apart -/
structure KeyEmb {α : Type} (e : α → D) (kf : α → NestedKey) : Prop where
  key : ∀ a, keyT (e a) = some (kf a)
  inj : ∀ {a b}, kf a = kf b → a = b
section
variable {α : Type} [DecidableEq α] {e : α → D} {kf : α → NestedKey}
abbrev asD (e : α → D) (ps : List (α × D)) : List (D × D) := ps.map fun p => (e p.1, p.2)
theorem keysOk_as (E : KeyEmb e kf) (ps : List (α × D)) : keysOk (asD e ps) = true := by
  unfold keysOk
  rw [List.all_map]
  exact List.all_eq_true.mpr fun p _ => by simp [E.key]
theorem look_as (E : KeyEmb e kf) (a : α) : ∀ ps : List (α × D), lookD (asD e ps) (kf a) = (ps.find? fun p => decide (p.1 = a)).map (·.2)
  | [] => rfl
  | p :: ps => by
    have ih := look_as E a ps
    unfold lookD at ih ⊢
    show Option.map (fun x => x.snd) (List.find? (fun q => decide (keyD q.fst = some (kf a))) ((e p.1, p.2) :: asD e ps)) = _
    rw [List.find?_cons, List.find?_cons, (keyT_ok (E.key p.1)).1]
    by_cases q : p.1 = a
    · rw [q, decide_eq_true rfl, decide_eq_true rfl]
      rfl
    · rw [decide_eq_false q, decide_eq_false (fun z => q (E.inj (Option.some.inj z)))]
      exact ih
theorem find_isSome (a : α) (ps : List (α × D)) : (ps.find? fun p => decide (p.1 = a)).isSome = decide (a ∈ ps.map (·.1)) := by
  rw [Bool.eq_iff_iff, List.find?_isSome, decide_eq_true_eq, List.mem_map]
  constructor
  · rintro ⟨p, hp, q⟩
    exact ⟨p, hp, of_decide_eq_true q⟩
  · rintro ⟨p, hp, q⟩
    exact ⟨p, hp, decide_eq_true q⟩
theorem in_as (E : KeyEmb e kf) (a : α) (ps : List (α × D)) : dInX (e a) (.dct (asD e ps)) = some (.bl (decide (a ∈ ps.map (·.1)))) := by
  show ((keyT (e a)).bind fun k => if keysOk (asD e ps) then some (D.bl (false ^^ (lookD (asD e ps) k).isSome)) else none) = _
  rw [E.key, Option.bind_some, if_pos (keysOk_as E ps), look_as E, Option.isSome_map, find_isSome]
  cases decide (a ∈ ps.map (·.1)) <;> rfl
theorem not_as (E : KeyEmb e kf) (a : α) (ps : List (α × D)) : dNotInX (e a) (.dct (asD e ps)) = some (.bl (!decide (a ∈ ps.map (·.1)))) := by
  show ((keyT (e a)).bind fun k => if keysOk (asD e ps) then some (D.bl (true ^^ (lookD (asD e ps) k).isSome)) else none) = _
  rw [E.key, Option.bind_some, if_pos (keysOk_as E ps), look_as E, Option.isSome_map, find_isSome]
  cases decide (a ∈ ps.map (·.1)) <;> rfl
theorem ix_as (E : KeyEmb e kf) {a : α} {ps : List (α × D)} {P : D → Prop} (h : a ∈ ps.map (·.1)) (hp : ∀ p ∈ ps, P p.2) : ∃ v, dIxX (.dct (asD e ps)) (e a) = some v ∧ P v := by
  have h2 := find_isSome a ps
  rw [decide_eq_true h] at h2
  obtain ⟨p, ep⟩ := Option.isSome_iff_exists.mp h2
  refine ⟨p.2, ?_, hp p (List.mem_of_find?_eq_some ep)⟩
  show ((keyT (e a)).bind fun k => if keysOk (asD e ps) then lookD (asD e ps) k else none) = _
  rw [E.key, Option.bind_some, if_pos (keysOk_as E ps), look_as E, ep]
  rfl
theorem put_as (E : KeyEmb e kf) {ρ : Sls} {i : Nat} {f g : Sls → Res D} {a : α} {v : D} {ps : List (α × D)} (h : ρ[i]? = some (.ow (.dct (asD e ps)))) (hf : f ρ = ok (e a)) (hg : g ρ = ok v) (hn : a ∉ ps.map (·.1)) (hl : ps.length ≤ 1000000) :
    sPut i f g ρ = .nx (ρ.set i (.ow (.dct (asD e (ps ++ [(a, v)]))))) := by
  unfold sPut
  rw [h]
  show thenF (g ρ) ρ _ = _
  rw [hg, thenF_ok, hf, thenF_ok, E.key]
  simp only []
  rw [if_pos ⟨keysOk_as E ps, by rw [List.length_map]; have := size1000; omega⟩]
  unfold putD
  have h2 := find_isSome a ps
  rw [decide_eq_false hn] at h2
  rw [look_as E, Option.isSome_map, h2, if_neg (by simp)]
  unfold asD
  rw [List.map_append]
  rfl
theorem disp1_as (E : KeyEmb e kf) {ρ : Sls} {f g : Sls → Res D} {a : α} {v : D} (hf : f ρ = ok (e a)) (hg : g ρ = ok v) : mDisp1 f g ρ = ok (.dct (asD e [(a, v)])) := by
  unfold mDisp1
  rw [hf, Res.ok_bind, hg, Res.ok_bind, E.key]
  exact if_pos rfl
theorem sort_as {q : α → PyData} (h1 : ∀ a, toPD (e a) = some (q a)) {ps : List (α × D)} (h2 : sortOk ((ps.map (·.1)).map q) = true) : ∃ l, dSortedX [.dct (asD e ps)] = some (.lst l) := by
  have e1 : (asD e ps).map (·.1) = (ps.map (·.1)).map e := by
    unfold asD
    rw [List.map_map, List.map_map]
    rfl
  refine ⟨sortD ((ps.map (·.1)).map e) ((ps.map (·.1)).map q), ?_⟩
  show ((toPDs ((asD e ps).map (·.1))).bind fun qs => if sortOk qs then some (D.lst (sortD ((asD e ps).map (·.1)) qs)) else none) = _
  rw [e1, toPDs_map fun a _ => h1 a, Option.bind_some, if_pos h2]
end
/-! ### a pair and a list of pairs -/
abbrev pB (s : (Int × Int) × List (Int × Int)) : D := .tup [pt s.1, .tup (s.2.map pt)]
def kB (s : (Int × Int) × List (Int × Int)) : NestedKey := .tup [kP s.1, .tup (s.2.map kP)]
theorem keyDs_pts : ∀ l : List (Int × Int), keyD.keyDs (l.map pt) = some (l.map kP)
  | [] => by simp [keyD.keyDs]
  | p :: l => by
    simp only [List.map_cons, keyD.keyDs, keyDs_pts l, keyD_pt]
    rfl
theorem kP_depth (p : Int × Int) : (kP p).depth = 1 := by simp [kP, NestedKey.depth, NestedKey.depthAll]
theorem depthAll_kP : ∀ l : List (Int × Int), NestedKey.depthAll (l.map kP) ≤ 1
  | [] => by simp [NestedKey.depthAll]
  | p :: l => by
    simp only [List.map_cons, NestedKey.depthAll, kP_depth]
    exact Nat.max_le.mpr ⟨Nat.le_refl _, depthAll_kP l⟩
theorem kB_depth (s : (Int × Int) × List (Int × Int)) : (kB s).depth ≤ 8 := by
  unfold kB
  simp only [NestedKey.depth, NestedKey.depthAll, kP_depth]
  have := depthAll_kP s.2
  omega
theorem embB : KeyEmb pB kB where
  key := fun s => by
    have e : keyD (pB s) = some (kB s) := by
      simp only [pB, keyD, keyD.keyDs, keyDs_pts, kB]
      rfl
    show (keyD (pB s)).bind (fun k => if k.depth ≤ 8 then some k else none) = _
    rw [e, Option.bind_some, if_pos (kB_depth s)]
  inj := fun {a b} h => by
    unfold kB at h
    injection h with h
    injection h with h1 h
    injection h with h2 h
    injection h2 with h2
    refine Prod.ext (kP_inj.mp h1) ?_
    have key : ∀ l m : List (Int × Int), l.map kP = m.map kP → l = m := by
      intro l
      induction l with
      | nil => intro m h; cases m with
        | nil => rfl
        | cons _ _ => simp at h
      | cons x l ih => intro m h; cases m with
        | nil => simp at h
        | cons y m =>
          simp only [List.map_cons, List.cons.injEq] at h
          rw [kP_inj.mp h.1, ih m h.2]
    exact key _ _ h2
def qB (s : (Int × Int) × List (Int × Int)) : PyData := .tuple [qP s.1, .tuple (s.2.map qP)]
theorem toPD_pB (s : (Int × Int) × List (Int × Int)) : toPD (pB s) = some (qB s) := by
  have h := toPDs_map (e := pt) (q := qP) (as := s.2) fun a _ => toPD_ptQ a
  have h1 := toPD_ptQ s.1
  simp only [pB, toPD, toPDs, qB, h]
  simp only [pt, toPD, toPDs] at h1
  simp [h1, qP]
theorem alikeAll_qP : ∀ l m : List (Int × Int), PySem.W.alikeAll (l.map qP) (m.map qP) = true
  | [], [] => rfl
  | [], _ :: _ => rfl
  | _ :: _, [] => rfl
  | a :: l, b :: m => by
    show (PySem.W.alike (qP a) (qP b) && PySem.W.alikeAll (l.map qP) (m.map qP)) = true
    rw [alikeAll_qP l m]
    rfl
theorem sortOk_qB (l : List ((Int × Int) × List (Int × Int))) : sortOk (l.map qB) = true := by
  unfold sortOk
  simp only [Bool.and_eq_true, Bool.or_eq_true, List.all_eq_true, decide_eq_true_eq]
  refine ⟨⟨fun x hx y hy => ?_, .inl fun x hx => ?_⟩, fun x hx => ?_⟩
  · obtain ⟨a, _, rfl⟩ := List.mem_map.mp hx
    obtain ⟨b, _, rfl⟩ := List.mem_map.mp hy
    show (PySem.W.alike (qP a.1) (qP b.1) && (PySem.W.alikeAll (a.2.map qP) (b.2.map qP) && true)) = true
    rw [alikeAll_qP]
    rfl
  · obtain ⟨a, _, rfl⟩ := List.mem_map.mp hx
    rfl
  · obtain ⟨a, _, rfl⟩ := List.mem_map.mp hx
    refine Nat.le_trans (Sh.tup (n := 2) (all_cons ⟨(sh_qP _).1, Nat.le_trans (sh_qP _).2 (by decide)⟩ (all_cons (Sh.tup (n := 1) fun d hd => ?_) all_nil))).2 (by decide)
    obtain ⟨p, _, rfl⟩ := List.mem_map.mp hd
    exact sh_qP p
end PP

namespace PP
open PySem PySem.Spec PyProof.Rows L2
open Res (ok exc bad)
section
variable {P : Program} {w : World} {A : Around} {E : Value → Shared → Prop} {s : Shared}
/-- what set.__init__ leaves -/
def MadeN (w : World) (ks : List (Addr × NestedKey)) (s s2 : Shared) : Prop := ∃ h' tk L es ep t, s2 = { s with heap := h', toks := tk } ∧ SetN w h' s.heap.objs.size L es ep t ∧ GotN ks ks.length L ∧ ∀ b o, s.heap.get? b = some o → h'.get? b = some o
theorem set_tupleN {l : Addr} {items : Array Value} (ks : List (Addr × NestedKey)) {Q : Value → Shared → Prop} (hh : A.handled = none) (hl : s.heap.IsTuple l items) (hit : items.toList = ks.map fun p => Value.ref p.1)
    (hk : ∀ p ∈ ks, IsN s.heap p.2 p.1) (few : ks.length + 1 ≤ 2047) (hu : A.units + 40 < cLine) (h : ∀ s2, MadeN w ks s s2 → Q (.ref s.heap.objs.size) s2) : wpAny (model P w) A (call (.type "set") [.ref l]) Q E s := by
  have len : items.size = ks.length := by rw [← Array.length_toList, hit, List.length_map]
  have ⟨c, tl, hmro⟩ := F.called_set.mro
  have hmade := F.called_set.made
  have hsub := F.called_set.sub
  have nt := F.called_set.notType
  have cc := F.called_set.canCreate
  have hct := F.typeCall_set_1 (.ref l)
  refine wpAny_call (codeAny_of_tree ?_)
  show wpAny _ _ (callAny (.type "set") _) _ _ _
  refine wpAny_pure ⟨Code.quiet_builtin _ (by decide +kernel), codeAny_builtin F.entry_type_call (?_)⟩
  rw [Around.under_plain (weight_type_call_type "set" [.ref l] []) rfl]
  repeat (any_goals (first | assumption | wp_step))
  refine codeAny_mono (code_set_led1 (.ref l) (E := E) (Q₁ := fun obj s1 => obj = .ref s.heap.objs.size ∧ s1 = { s with heap := s.heap.push (oSetN w) }) ⟨rfl, rfl⟩) fun r s1 hr => ?_
  match r, hr with
  | .error e, hr => exact hr
  | .ok (.ret obj), hr =>
    obtain ⟨rfl, rfl⟩ := hr
    have gS : (s.heap.push (oSetN w)).get? s.heap.objs.size = some (oSetN w) := Heap.get?_push_size _ rfl
    have tS : Shared.TypeIs { s with heap := s.heap.push (oSetN w) } (.ref s.heap.objs.size) "set" := ⟨_, gS, rfl⟩
    have hli := F.called_set.init.lookup
    have hbi := F.called_set.init.bind (.ref s.heap.objs.size)
    repeat (any_goals (first | assumption | wp_step))
    refine codeAny_mono (codeAny_call_builtin (R := wants (fun r s2 => r = .none ∧ MadeN w ks s s2) E) F.called_set.init.plain F.entry_set_init (check_set_init_1 tS ?_)) fun r2 s2 hr2 => ?_
    · obtain ⟨⟨ocls, odict, odata, oslots⟩, hol, hcl, nl, hdl⟩ := hl
      simp only at hcl hdl
      subst hcl hdl
      have hol' : (s.heap.push (oSetN w)).get? l = some { cls := .type "tuple", dict := odict, data := .seq items nl, slots := oslots } := Heap.get?_push_of_some _ hol
      have hl1 : (s.heap.push (oSetN w)).IsTuple l items := ⟨_, hol', rfl, nl, rfl⟩
      have hsls := F.sub_tuple_set
      have hslf := F.sub_tuple_frozenset
      have hne : (Value.type "tuple" == Value.type "dict") = false := (by decide)
      unfold Builtin.«set.__init__» noKeywords Builtin.Frozenset.updateFrom
      generalize hPI : pyIter = PI
      wp_walk
      subst hPI
      refine wpAny_pyIter_tuple hl1 (wpAny_bind (wpAny_runValue (?_)))
      have lS : l < s.heap.objs.size := Heap.lt_size hol
      have pz : (s.heap.push (oSetN w)).objs.size = s.heap.objs.size + 1 := Heap.size_push ..
      have nI : l ≠ (s.heap.push (oSetN w)).objs.size := fun z => Nat.lt_irrefl l (Nat.lt_of_lt_of_le (Nat.lt_succ_of_lt lS) (Nat.le_of_eq (pz.symm.trans z.symm)))
      have nS : s.heap.objs.size ∉ [(s.heap.push (oSetN w)).objs.size, l] := by
        rw [pz]
        simp only [List.mem_cons, List.not_mem_nil, or_false, not_or]
        exact ⟨Nat.ne_of_lt (Nat.lt_succ_self _), fun z => Nat.lt_irrefl l (Nat.lt_of_lt_of_le lS (Nat.le_of_eq z))⟩
      have hval : ∀ (i : Nat) (v : Value), items[i]? = some v → ∃ p, ks[i]? = some p ∧ v = .ref p.1 := fun i v hv => by
        rw [← Array.getElem?_toList, hit, List.getElem?_map] at hv
        obtain ⟨p, e1, e2⟩ := Option.map_eq_some_iff.mp hv
        exact ⟨p, e1, e2.symm⟩
      have free : ∀ b, s.heap.objs.size ≤ b → s.heap.get? b = none := fun b hb => by
        cases q : s.heap.get? b with
        | none => rfl
        | some o => exact absurd (Heap.lt_size q) (Nat.not_lt_of_le hb)
      have h3 : A.in1.in1.in1.handled = none := by simp [hh]
      have hu2 : A.in1.in1.in1.units + 8 < cLine := by
        show A.units + 1 + 1 + 1 + 8 < cLine
        omega
      refine update_n ((Walks.tuple h3 _ l nI items).toS) s.heap.objs.size nS ks len few hval s.heap hk (free _ (Nat.le_refl _)) (fun b hb => free b (by rw [List.mem_singleton.mp hb, pz]; omega)) (by first | exact hu2 | (simp only [Around.in1_units] at *; omega)) (items.size - 0) 0 _ (by omega) (Nat.zero_le _)
        ⟨⟨_, Heap.get?_push_size _ rfl, rfl, rfl⟩, (hl1.push _)⟩ (fun b o e => Heap.get?_push_of_some _ (Heap.get?_push_of_some _ e)) ⟨[], #[], 0, _, setN_new (Heap.get?_push_of_some _ gS), ⟨fun p h => (by cases h), fun p h => (by simp at h), Nat.le_refl _⟩⟩ fun s' L es ep t hm hS' g' hkp => ?_
      obtain ⟨h', g2, d', tk', os'⟩ := s'
      have eg : g2 = s.gens := hm.gens
      have ed : d' = s.drawn := hm.drawn
      have eo : os' = s.os := hm.os
      subst eg ed eo
      rw [len] at g'
      show wpAny _ _ _ _ _ _
      refine wpAny_pure (?_)
      show wpAny _ _ (ret Value.none) _ _ _
      exact wpAny_pure ⟨rfl, h', tk', L, es, ep, t, rfl, hS', g', hkp⟩
    · match r2, hr2 with
      | .error e, hr2 => exact hr2
      | .ok (.ret r), hr2 =>
        obtain ⟨rfl, m⟩ := hr2
        repeat (any_goals (first | assumption | wp_step))
        exact h _ m
theorem set_listN {l : Addr} {items : Array Value} (ks : List (Addr × NestedKey)) {Q : Value → Shared → Prop} (hh : A.handled = none) (hl : s.heap.IsList l items) (hit : items.toList = ks.map fun p => Value.ref p.1)
    (hk : ∀ p ∈ ks, IsN s.heap p.2 p.1) (few : ks.length + 1 ≤ 2047) (hu : A.units + 40 < cLine) (h : ∀ s2, MadeN w ks s s2 → Q (.ref s.heap.objs.size) s2) : wpAny (model P w) A (call (.type "set") [.ref l]) Q E s := by
  have len : items.size = ks.length := by rw [← Array.length_toList, hit, List.length_map]
  have ⟨c, tl, hmro⟩ := F.called_set.mro
  have hmade := F.called_set.made
  have hsub := F.called_set.sub
  have nt := F.called_set.notType
  have cc := F.called_set.canCreate
  have hct := F.typeCall_set_1 (.ref l)
  refine wpAny_call (codeAny_of_tree ?_)
  show wpAny _ _ (callAny (.type "set") _) _ _ _
  refine wpAny_pure ⟨Code.quiet_builtin _ (by decide +kernel), codeAny_builtin F.entry_type_call (?_)⟩
  rw [Around.under_plain (weight_type_call_type "set" [.ref l] []) rfl]
  repeat (any_goals (first | assumption | wp_step))
  refine codeAny_mono (code_set_led1 (.ref l) (E := E) (Q₁ := fun obj s1 => obj = .ref s.heap.objs.size ∧ s1 = { s with heap := s.heap.push (oSetN w) }) ⟨rfl, rfl⟩) fun r s1 hr => ?_
  match r, hr with
  | .error e, hr => exact hr
  | .ok (.ret obj), hr =>
    obtain ⟨rfl, rfl⟩ := hr
    have gS : (s.heap.push (oSetN w)).get? s.heap.objs.size = some (oSetN w) := Heap.get?_push_size _ rfl
    have tS : Shared.TypeIs { s with heap := s.heap.push (oSetN w) } (.ref s.heap.objs.size) "set" := ⟨_, gS, rfl⟩
    have hli := F.called_set.init.lookup
    have hbi := F.called_set.init.bind (.ref s.heap.objs.size)
    repeat (any_goals (first | assumption | wp_step))
    refine codeAny_mono (codeAny_call_builtin (R := wants (fun r s2 => r = .none ∧ MadeN w ks s s2) E) F.called_set.init.plain F.entry_set_init (check_set_init_1 tS ?_)) fun r2 s2 hr2 => ?_
    · obtain ⟨⟨ocls, odict, odata, oslots⟩, hol, hcl, nl, hdl⟩ := hl
      simp only at hcl hdl
      subst hcl hdl
      have hol' : (s.heap.push (oSetN w)).get? l = some { cls := .type "list", dict := odict, data := .seq items nl, slots := oslots } := Heap.get?_push_of_some _ hol
      have hl1 : (s.heap.push (oSetN w)).IsList l items := ⟨_, hol', rfl, nl, rfl⟩
      have hsls := F.sub_list_set
      have hslf := F.sub_list_frozenset
      have hne : (Value.type "list" == Value.type "dict") = false := (by decide)
      unfold Builtin.«set.__init__» noKeywords Builtin.Frozenset.updateFrom
      generalize hPI : pyIter = PI
      wp_walk
      subst hPI
      refine wpAny_pyIter_list hl1 (wpAny_bind (wpAny_runValue (?_)))
      have lS : l < s.heap.objs.size := Heap.lt_size hol
      have pz : (s.heap.push (oSetN w)).objs.size = s.heap.objs.size + 1 := Heap.size_push ..
      have nI : l ≠ (s.heap.push (oSetN w)).objs.size := fun z => Nat.lt_irrefl l (Nat.lt_of_lt_of_le (Nat.lt_succ_of_lt lS) (Nat.le_of_eq (pz.symm.trans z.symm)))
      have nS : s.heap.objs.size ∉ [(s.heap.push (oSetN w)).objs.size, l] := by
        rw [pz]
        simp only [List.mem_cons, List.not_mem_nil, or_false, not_or]
        exact ⟨Nat.ne_of_lt (Nat.lt_succ_self _), fun z => Nat.lt_irrefl l (Nat.lt_of_lt_of_le lS (Nat.le_of_eq z))⟩
      have hval : ∀ (i : Nat) (v : Value), items[i]? = some v → ∃ p, ks[i]? = some p ∧ v = .ref p.1 := fun i v hv => by
        rw [← Array.getElem?_toList, hit, List.getElem?_map] at hv
        obtain ⟨p, e1, e2⟩ := Option.map_eq_some_iff.mp hv
        exact ⟨p, e1, e2.symm⟩
      have free : ∀ b, s.heap.objs.size ≤ b → s.heap.get? b = none := fun b hb => by
        cases q : s.heap.get? b with
        | none => rfl
        | some o => exact absurd (Heap.lt_size q) (Nat.not_lt_of_le hb)
      have h3 : A.in1.in1.in1.handled = none := by simp [hh]
      have hu2 : A.in1.in1.in1.units + 8 < cLine := by
        show A.units + 1 + 1 + 1 + 8 < cLine
        omega
      refine update_n ((Walks.list h3 _ l nI items).toS) s.heap.objs.size nS ks len few hval s.heap hk (free _ (Nat.le_refl _)) (fun b hb => free b (by rw [List.mem_singleton.mp hb, pz]; omega)) (by first | exact hu2 | (simp only [Around.in1_units] at *; omega)) (items.size - 0) 0 _ (by omega) (Nat.zero_le _)
        ⟨⟨_, Heap.get?_push_size _ rfl, rfl, rfl⟩, (hl1.push _)⟩ (fun b o e => Heap.get?_push_of_some _ (Heap.get?_push_of_some _ e)) ⟨[], #[], 0, _, setN_new (Heap.get?_push_of_some _ gS), ⟨fun p h => (by cases h), fun p h => (by simp at h), Nat.le_refl _⟩⟩ fun s' L es ep t hm hS' g' hkp => ?_
      obtain ⟨h', g2, d', tk', os'⟩ := s'
      have eg : g2 = s.gens := hm.gens
      have ed : d' = s.drawn := hm.drawn
      have eo : os' = s.os := hm.os
      subst eg ed eo
      rw [len] at g'
      show wpAny _ _ _ _ _ _
      refine wpAny_pure (?_)
      show wpAny _ _ (ret Value.none) _ _ _
      exact wpAny_pure ⟨rfl, h', tk', L, es, ep, t, rfl, hS', g', hkp⟩
    · match r2, hr2 with
      | .error e, hr2 => exact hr2
      | .ok (.ret r), hr2 =>
        obtain ⟨rfl, m⟩ := hr2
        repeat (any_goals (first | assumption | wp_step))
        exact h _ m
end
end PP

namespace PP
open PySem PySem.Spec PyProof.Rows L2
open Res (ok exc bad)
/-! ### the object -/
structure SetN0 (w : World) (h : Heap) (a : Addr) (L : List (Addr × NestedKey)) : Prop where
  ex : ∃ (es : Array (Int × Value)) (ep : Nat) (t : SetTable), (∃ o, h.get? a = some o ∧ o.ExactSet ∧ o.data = .set es ep t) ∧ (es.toList = rowsN w L ∧ TabP t (L.map fun p => p.2.hash w)) ∧ (L.map (·.2)).Nodup ∧ t.plain = true ∧ (w.params.followText "set-order" = true ∨ t.led = true) ∧ L.length * 5 < t.mask * 3 ∧ t.mask ≤ 8191
def SetNO (w : World) (a : Addr) (L : List (Addr × NestedKey)) : HO := .ext fun h => SetN0 w h a L
theorem SetN.bare {w : World} {h : Heap} {a : Addr} {L : List (Addr × NestedKey)} {es : Array (Int × Value)} {ep : Nat} {t : SetTable} (R : SetN w h a L es ep t) : SetN0 w h a L := ⟨es, ep, t, R.ob, ⟨R.rows, R.tab⟩, R.nd, R.plain, R.led, R.room, R.big⟩
theorem SetN0.with {w : World} {h : Heap} {a : Addr} {L : List (Addr × NestedKey)} (R : SetN0 w h a L) (k : ∀ p ∈ L, IsN h p.2 p.1) : ∃ es ep t, SetN w h a L es ep t := by
  obtain ⟨es, ep, t, h1, ⟨h2, h3⟩, h4, h5, h6, h7, h8⟩ := R.ex
  exact ⟨es, ep, t, h1, h2, h3, h4, k, h5, h6, h7, h8⟩
theorem setNO_new {P : Program} {w : World} {H : Hp} {h : Heap} {a : Addr} {L : List (Addr × NestedKey)} (R : SetN0 w h a L) : ObjOk P w H h a (SetNO w a L) := by
  obtain ⟨es, ep, t, ⟨o, ho, r⟩, q⟩ := id R.ex
  refine ⟨R, ⟨o, ho⟩, fun h1 h2 p k => ?_⟩
  obtain ⟨es', ep', t', ⟨o', ho', r'⟩, q'⟩ := SetN0.ex p
  exact ⟨es', ep', t', ⟨o', k o' ho', r'⟩, q'⟩
theorem refs_valsN : ∀ {ks : List (Addr × NestedKey)} {us : List Value}, Vals (ks.map fun p => V.ref p.1) us → us = ks.map fun p => Value.ref p.1
  | [], _, .nil => rfl
  | p :: ks, _, .cons r t => by
    cases r
    rw [refs_valsN t]
    rfl
mutual
theorem numK_of : ∀ {d : D} {k : NestedKey}, keyD d = some k → numK k = true
  | .int i, k, e => by simp [keyD] at e; subst e; rfl
  | .tup xs, k, e => by
    simp only [keyD, Option.map_eq_some_iff] at e
    obtain ⟨ks, e1, rfl⟩ := e
    simpa [numK] using numKs_of e1
  | .non, _, e => by simp [keyD] at e
  | .bl _, _, e => by simp [keyD] at e
  | .str _, _, e => by simp [keyD] at e
  | .ty _, _, e => by simp [keyD] at e
  | .lst _, _, e => by simp [keyD] at e
  | .kl _, _, e => by simp [keyD] at e
  | .obj _ _, _, e => by simp [keyD] at e
  | .dct _, _, e => by simp [keyD] at e
theorem numKs_of : ∀ {ds : List D} {ks : List NestedKey}, keyD.keyDs ds = some ks → numKs ks = true
  | [], ks, e => by simp [keyD.keyDs] at e; subst e; rfl
  | d :: ds, ks, e => by
    simp only [keyD.keyDs, Option.bind_eq_some_iff, Option.map_eq_some_iff] at e
    obtain ⟨k, e1, ks', e2, rfl⟩ := e
    simp [numKs, numK_of e1, numKs_of e2]
end
/-- a key's datum, at a -/
def KeyAt (K : PySem.W.Frag) (H : Hp) (Z : Addr → Prop) (d : D) (p : Addr × NestedKey) : Prop := Rep K H Z (.ref p.1) d ∧ keyT d = some p.2
section
variable {X : Cx} {pins : List (Addr × Obj)} {σ : L2.St} {H : Hp} {s : Shared}
theorem KeyAt.is {Z : Addr → Prop} {d : D} {p : Addr × NestedKey} (I : Inv X pins σ H s) (k : KeyAt X.K H Z d p) : IsN s.heap p.2 p.1 := by
  obtain ⟨k1, k2, _⟩ := keyT_ok k.2
  exact ⟨nested_of I k.1 k1 rfl, k2, numK_of k1⟩
/-- set(xs) -/
def rSetN (K : PySem.W.Frag) (w : World) : List V → Hp → VK → Prop := fun xs H Q => ∃ (l : Addr) (ks : List (Addr × NestedKey)), xs = [V.ref l] ∧ (SqT K H l (ks.map fun p => V.ref p.1) ∨ SqL K H l (ks.map fun p => V.ref p.1)) ∧ (∀ p ∈ ks, ∃ Z d, KeyAt K H Z d p) ∧ ks.length + 1 ≤ 2047 ∧
  ∀ a L, H a = none → (∀ p ∈ L, p ∈ ks) → (∀ p ∈ ks, p.2 ∈ L.map (·.2)) → (L.map (·.2)).Nodup → Q (.ref a) (upd H a (SetNO w a L))
theorem cr_setN (hc : X.calm = true) (hu : X.A.units + 65 < cLine) : CallR X (.type "set") (rSetN X.K X.w) := by
  intro pins s σ H xs us Q I r ⟨l, ks, ex, hl, hk, hf, q⟩
  subst ex
  rw [Vals.ref1 r]
  have keys : ∀ p ∈ ks, IsN s.heap p.2 p.1 := fun p hp => let ⟨_, _, k⟩ := hk p hp; k.is I
  have fin : ∀ s2, MadeN X.w ks s s2 → EP X pins σ Q (.ref s.heap.objs.size) s2 := fun s2 ⟨h', tk, L, es, ep, t, e, R, g, k⟩ => by
    subst e
    exact ⟨.ref s.heap.objs.size, _, I.laid (t' := tk) k (Nat.le_refl _) (setNO_new R.bare), rfl, q _ L (I.hok.fresh (Nat.le_refl _)) (fun p hp => List.mem_of_mem_take (g.sub p hp)) (fun p hp => g.all p (by rw [List.take_length]; exact hp)) R.nd⟩
  rcases hl with hl | hl
  · obtain ⟨its, rv, pl, hz⟩ := I.tuple hl
    exact set_tupleN (P := X.prog) (w := X.w) ks (I.ok.hd hc) pl (by simpa using refs_valsN rv) keys hf (by omega) fin
  · obtain ⟨its, rv, pl, hz⟩ := I.list hl
    exact set_listN (P := X.prog) (w := X.w) ks (I.ok.hd hc) pl.isList (by simpa using refs_valsN rv) keys hf (by omega) fin
/-- sorted(set) -/
def rSortN (K : PySem.W.Frag) (w : World) : List V → Hp → VK → Prop := fun vs H Q => ∃ (a : Addr) (L : List (Addr × NestedKey)), vs = [V.ref a] ∧ H a = some (SetNO w a L) ∧ (∀ p ∈ L, ∃ Z d, KeyAt K H Z d p) ∧ L.length ≤ 2047 ∧
  ∀ L' : List (Addr × NestedKey), L'.Perm L → ∃ bs : List B3, bs.map (·.1) = L'.map (fun p => V.ref p.1) ∧ (∀ b ∈ bs, Dp K H b.1 b.2.2) ∧ PySem.W.AllAlike (bs.map (·.2.2)) ∧ PySem.W.Sortable (bs.map (·.2.2)) ∧ (∀ b ∈ bs, b.2.2.depth ≤ 60) ∧
    ∀ p, H p = none → Q (.ref p) (upd H p (.lst ((bs.mergeSort (PySem.W.dataLe false (·.2.2))).map (·.1))))
theorem cr_sortN (hc : X.calm = true) (hu : X.A.units + 65 < cLine) : CallR X (.builtin "sorted") (rSortN X.K X.w) := by
  intro pins s σ H vs us Q I r ⟨a, L, ex, ha, hk, few, q⟩
  subst ex
  rw [Vals.ref1 r]
  have keys : ∀ p ∈ L, IsN s.heap p.2 p.1 := fun p hp => let ⟨_, _, k⟩ := hk p hp; k.is I
  obtain ⟨es, ep, t, R⟩ := SetN0.with (show SetN0 X.w s.heap a L from (I.hok a _ ha).1) keys
  obtain ⟨o, ho, hex, hd0⟩ := R.ob
  have sz := rowsN_size R.rows
  refine Calls.call_function_entry kind_sorted plain_sorted entry_sorted (args_sorted1 _) ?_
  unfold Builtin.«sorted»
  refine wpAny_bind (m := checkCount "sorted" 1 1 _) (wpAny_pure ?_)
  refine wpAny_bind (collect_set (A := X.A.in1) (I.ok.hd hc) ⟨o, ho, hex.1, hd0⟩ R.fits (by unfold scanBound; omega) R.tab.asc R.led fun s1 acc old hz g1 o1 pm => ?_)
  have es2 : es.toList.map (·.2) = L.map fun p => Value.ref p.1 := by rw [R.rows, rowsN, List.map_map]; rfl
  rw [es2] at pm
  have pick : ∀ vs : List Value, (∀ v ∈ vs, ∃ p ∈ L, v = Value.ref p.1) → ∃ L1 : List (Addr × NestedKey), vs = L1.map (fun p => Value.ref p.1) ∧ ∀ p ∈ L1, p ∈ L := by
    intro vs
    induction vs with
    | nil => exact fun _ => ⟨[], rfl, fun p h => by cases h⟩
    | cons v vs ih =>
      intro hv
      obtain ⟨p, hp, e⟩ := hv v (by simp)
      obtain ⟨L1, e1, sb⟩ := ih fun u hu => hv u (by simp [hu])
      exact ⟨p :: L1, by rw [e, e1]; rfl, fun x hx => (List.mem_cons.mp hx).elim (fun z => by rw [z]; exact hp) (sb x)⟩
  obtain ⟨L1, eL1, sb1⟩ := pick acc fun v hv => by
    obtain ⟨p, hp, e⟩ := List.mem_map.mp (pm.mem_iff.mp hv)
    exact ⟨p, hp, e.symm⟩
  have one : ∀ p ∈ L, ∀ p' ∈ L, p.1 = p'.1 → p = p' := fun p hp p' hp' e => by
    have k1 := keys p hp
    have k2 := keys p' hp'
    rw [e] at k1
    exact Prod.ext e (k1.inj k2)
  have ndL : L.Nodup := nodup_of_map R.nd
  have pmL : L1.Perm L := by
    have nr : (L.map fun p => Value.ref p.1).Nodup := by
      refine List.pairwise_map.mpr (List.Pairwise.imp_of_mem (fun {x y} hx hy ne e => ?_) ndL)
      injection e with e
      exact ne (one x hx y hy e)
    rw [eL1] at pm
    have n1 : L1.Nodup := nodup_of_map (pm.nodup_iff.mpr nr)
    refine (List.perm_ext_iff_of_nodup n1 ndL).mpr fun p => ⟨sb1 p, fun hp => ?_⟩
    have : Value.ref p.1 ∈ L1.map (fun p => Value.ref p.1) := pm.mem_iff.mpr (List.mem_map.mpr ⟨p, hp, rfl⟩)
    obtain ⟨p', hp', e⟩ := List.mem_map.mp this
    injection e with e
    rw [← one p' (sb1 p' hp') p hp e]
    exact hp'
  obtain ⟨bs, eb, hd, h1, h2, h3, q⟩ := q L1 pmL
  have lenB : bs.length = L1.length := by rw [← List.length_map (f := (·.1)) (as := bs), eb, List.length_map]
  have lenA : acc.length = L1.length := by rw [eL1, List.length_map]
  have lenL : L1.length ≤ 2047 := by rw [pmL.length_eq]; exact few
  have rv : Vals (bs.map (·.1)) acc := by
    rw [eb, eL1]
    clear eb eL1 lenB lenA lenL pmL sb1
    induction L1 with
    | nil => exact .nil
    | cons p l ih => exact .cons rfl ih
  obtain ⟨e1, e2⟩ := each_reads I rv hd
  refine wpAny_bind (wpAny_newList ?_ (by rw [sizeLine_eq]; omega))
  have fresh : s.heap.get? s1.heap.objs.size = none := by
    cases z : s.heap.get? s1.heap.objs.size with
    | none => rfl
    | some o => exact absurd (Heap.lt_size (old _ _ z)) (Nat.lt_irrefl _)
  have er : PySem.W.EachIs (fun v (b : B3) => ∃ as, Reads (s1.heap.push { cls := .type "list", data := .seq acc.toArray }) v b.2.2 as ∧ s1.heap.objs.size ∉ as) acc bs :=
    e2.mono fun v b ⟨as, r⟩ => ⟨as, Reads.keeps (fun b o q => Heap.get?_push_of_some _ (old b o q)) r, fun m => reads_live r _ m fresh⟩
  have ho2 : (s1.heap.push { cls := .type "list", data := .seq acc.toArray }).get? s1.heap.objs.size = some (seqObj "list" acc.toArray 0) := Heap.get?_push_size _ rfl
  refine wpAny_bind (wpAny_holding ?_)
  refine PySem.W.list_sort_data (s := { s1 with heap := s1.heap.push { cls := .type "list", data := .seq acc.toArray } }) (enc := fun b : B3 => b.2.2) ho2 e1 er h1 h2 (by rw [lenB, sizeLine_eq]; omega) (fun b hb => ?_) fun out lo2 eo => ?_
  · have := h3 b hb
    show X.A.units + 1 + 1 + _ < cLine
    omega
  · refine wpAny_pure ⟨_, rfl, ?_⟩
    obtain ⟨ep2, at2⟩ := sortedHeap_at (out := out.toArray) ho2
    have rv2 := each_vals eo
    have hlen : ((bs.mergeSort (PySem.W.dataLe false fun b : B3 => b.2.2)).map (·.1)).length ≤ sizeLine := by rw [List.length_map, List.length_mergeSort, lenB, sizeLine_eq]; omega
    have g1' := g1
    have o1' := o1
    obtain ⟨hp1, gn1, dr1, tk1, os1⟩ := s1
    simp only at g1' o1'
    subst g1' o1'
    have kp : ∀ b u, s.heap.get? b = some u → (sortedHeap (hp1.push { cls := .type "list", data := .seq acc.toArray }) hp1.objs.size acc out.toArray).get? b = some u := fun b u z => by
      have lt := Heap.lt_size (old b u z)
      have pz : (hp1.push { cls := .type "list", data := .seq acc.toArray }).get? b = some u := Heap.get?_push_of_some _ (old b u z)
      rw [sortedHeap_old (Nat.ne_of_lt lt) (Heap.lt_size pz)]
      exact pz
    have np : H hp1.objs.size = none := I.hok.gone fresh
    have J : Inv X pins σ (upd H hp1.objs.size (.lst ((bs.mergeSort (PySem.W.dataLe false fun b : B3 => b.2.2)).map (·.1)))) { s with heap := sortedHeap (hp1.push { cls := .type "list", data := .seq acc.toArray }) hp1.objs.size acc out.toArray, gens := s.gens, drawn := dr1, toks := tk1 } :=
      I.call (ch := []) (Un.laid kp hz np) (I.hok.laid kp hz ⟨hlen, out, ep2, rv2, at2⟩) I.bare (fun _ z => nomatch z)
    exact ⟨.ref _, _, J, rfl, q _ np⟩
end
end PP

namespace PP
open PySem PySem.Spec PyProof.Rows L2
open Res (ok exc bad)
/-! ### sorted(set(xs)), xs keys of any depth -/
mutual
theorem keyD_inj : ∀ {d d' : D} {k : NestedKey}, keyD d = some k → keyD d' = some k → d = d'
  | .int i, d', k, e, e' => by
    simp [keyD] at e
    subst e
    cases d' with
    | int j => simp [keyD] at e'; rw [e']
    | tup ys => simp only [keyD, Option.map_eq_some_iff] at e'; obtain ⟨_, _, z⟩ := e'; cases z
    | _ => simp [keyD] at e'
  | .tup xs, d', k, e, e' => by
    simp only [keyD, Option.map_eq_some_iff] at e
    obtain ⟨ks, e1, rfl⟩ := e
    cases d' with
    | int j => simp [keyD] at e'
    | tup ys =>
      simp only [keyD, Option.map_eq_some_iff] at e'
      obtain ⟨ks', e2, z⟩ := e'
      injection z with z
      subst z
      rw [keyDs_inj e1 e2]
    | _ => simp [keyD] at e'
  | .non, _, _, e, _ => by simp [keyD] at e
  | .bl _, _, _, e, _ => by simp [keyD] at e
  | .str _, _, _, e, _ => by simp [keyD] at e
  | .ty _, _, _, e, _ => by simp [keyD] at e
  | .lst _, _, _, e, _ => by simp [keyD] at e
  | .kl _, _, _, e, _ => by simp [keyD] at e
  | .obj _ _, _, _, e, _ => by simp [keyD] at e
  | .dct _, _, _, e, _ => by simp [keyD] at e
theorem keyDs_inj : ∀ {ds ds' : List D} {ks : List NestedKey}, keyD.keyDs ds = some ks → keyD.keyDs ds' = some ks → ds = ds'
  | [], ds', ks, e, e' => by
    simp [keyD.keyDs] at e
    subst e
    cases ds' with
    | nil => rfl
    | cons d ds =>
      simp only [keyD.keyDs, Option.bind_eq_some_iff, Option.map_eq_some_iff] at e'
      obtain ⟨_, _, _, _, z⟩ := e'
      cases z
  | d :: ds, ds', ks, e, e' => by
    simp only [keyD.keyDs, Option.bind_eq_some_iff, Option.map_eq_some_iff] at e
    obtain ⟨k, e1, ks2, e2, rfl⟩ := e
    cases ds' with
    | nil => simp [keyD.keyDs] at e'
    | cons d' ds' =>
      simp only [keyD.keyDs, Option.bind_eq_some_iff, Option.map_eq_some_iff] at e'
      obtain ⟨k', f1, ks3, f2, z⟩ := e'
      injection z with z1 z2
      subst z1 z2
      rw [keyD_inj e1 f1, keyDs_inj e2 f2]
end
theorem keyT_inj {d d' : D} {k : NestedKey} (e : keyT d = some k) (e' : keyT d' = some k) : d = d' := keyD_inj (keyT_ok e).1 (keyT_ok e').1
/-- each once -/
def dedK : List D → List D
  | [] => []
  | x :: xs => if (dedK xs).any (fun y => decide (keyT y = keyT x)) then dedK xs else x :: dedK xs
theorem dedK_sub : ∀ {xs : List D} {x : D}, x ∈ dedK xs → x ∈ xs
  | [], _, h => h
  | y :: xs, x, h => by
    unfold dedK at h
    split at h
    · exact List.mem_cons_of_mem _ (dedK_sub h)
    · rcases List.mem_cons.mp h with e | e
      · rw [e]; simp
      · exact List.mem_cons_of_mem _ (dedK_sub e)
theorem dedK_mem : ∀ {xs : List D}, (∀ x ∈ xs, (keyT x).isSome = true) → ∀ {x : D}, x ∈ dedK xs ↔ x ∈ xs
  | [], _, _ => Iff.rfl
  | y :: xs, h, x => by
    have ih := fun {x : D} => dedK_mem (xs := xs) (fun z hz => h z (by simp [hz])) (x := x)
    refine ⟨dedK_sub, fun hx => ?_⟩
    unfold dedK
    split
    · rename_i c
      rcases List.mem_cons.mp hx with e | e
      · obtain ⟨z, hz, ez⟩ := List.any_eq_true.mp c
        have ez := of_decide_eq_true ez
        obtain ⟨k, hk⟩ := Option.isSome_iff_exists.mp (h y (by simp))
        rw [e, keyT_inj hk (ez.trans hk)]
        exact hz
      · exact ih.mpr e
    · rcases List.mem_cons.mp hx with e | e
      · rw [e]; simp
      · exact List.mem_cons_of_mem _ (ih.mpr e)
theorem dedK_nd : ∀ xs : List D, (dedK xs).Nodup
  | [] => List.nodup_nil
  | y :: xs => by
    unfold dedK
    split
    · exact dedK_nd xs
    · rename_i c
      refine List.nodup_cons.mpr ⟨fun hy => c (List.any_eq_true.mpr ⟨y, hy, decide_eq_true rfl⟩), dedK_nd xs⟩
def srtD (ds : List D) : List D := match toPDs ds with
  | some ps => sortD ds ps
  | none => []
open Classical in
noncomputable def ssn (xs : List D) : Option D := (toPDs xs).bind fun ps => if sortOk ps = true ∧ xs.length ≤ 2000 ∧ (∀ x ∈ xs, (keyT x).isSome = true) ∧ (∀ ys : List D, ys.Perm (dedK xs) → srtD ys = srtD (dedK xs)) then some (.lst (srtD (dedK xs))) else none
noncomputable def dSSN : List D → Option D
  | [.tup xs] => ssn xs
  | [.lst xs] => ssn xs
  | _ => none
section
variable {K : PySem.W.Frag} {H : Hp} {O : Addr → Prop}
theorem keys_of : ∀ {us : List V} {xs : List D}, Reps K H O us xs → (∀ x ∈ xs, (keyT x).isSome = true) → ∃ ks : List (Addr × NestedKey), us = ks.map (fun p => V.ref p.1) ∧ ks.length = xs.length ∧ (∀ p ∈ ks, ∃ d ∈ xs, KeyAt K H O d p) ∧ ∀ d ∈ xs, ∃ p ∈ ks, KeyAt K H O d p
  | _, _, .nil, _ => ⟨[], rfl, rfl, fun _ h => by simp at h, fun _ h => by simp at h⟩
  | _, _, .cons (d := d) (ds := xs) r t, h => by
    obtain ⟨ks, e1, e2, e3, e4⟩ := keys_of t fun x hx => h x (by simp [hx])
    obtain ⟨k, hk⟩ := Option.isSome_iff_exists.mp (h _ (List.mem_cons_self))
    obtain ⟨_, _, ys, rfl⟩ := keyT_ok hk
    obtain ⟨b, rfl⟩ := r.refT
    refine ⟨(b, k) :: ks, by rw [e1]; rfl, by simp [e2], fun p hp => ?_, fun d hd => ?_⟩
    · rcases List.mem_cons.mp hp with e | e
      · rw [e]; exact ⟨_, List.mem_cons_self, r, hk⟩
      · obtain ⟨d, hd, kd⟩ := e3 p e
        exact ⟨d, List.mem_cons_of_mem _ hd, kd⟩
    · rcases List.mem_cons.mp hd with e | e
      · rw [e]; exact ⟨_, List.mem_cons_self, r, hk⟩
      · obtain ⟨p, hp, kd⟩ := e4 d e
        exact ⟨p, List.mem_cons_of_mem _ hp, kd⟩
theorem reps_pick {xs : List D} : ∀ {L : List (Addr × NestedKey)}, (∀ p ∈ L, ∃ d ∈ xs, KeyAt K H O d p) → ∃ ds : List D, Reps K H O (L.map fun p => V.ref p.1) ds ∧ ds.map keyT = L.map (fun p => some p.2) ∧ ∀ d ∈ ds, d ∈ xs
  | [], _ => ⟨[], .nil, rfl, fun _ h => by simp at h⟩
  | p :: L, h => by
    obtain ⟨d, hd, kd⟩ := h p (by simp)
    obtain ⟨ds, r, e, sb⟩ := reps_pick (L := L) fun q hq => h q (by simp [hq])
    exact ⟨d :: ds, .cons kd.1 r, by simp [e, kd.2], fun x hx => (List.mem_cons.mp hx).elim (fun z => by rw [z]; exact hd) (sb x)⟩
theorem toPDs_sub : ∀ {xs : List D} {ps : List PyData}, toPDs xs = some ps → ∀ {ds : List D}, (∀ d ∈ ds, d ∈ xs) → ∃ qs, toPDs ds = some qs ∧ ∀ q ∈ qs, q ∈ ps := by
  intro xs ps e
  have at_ : ∀ {xs : List D} {ps : List PyData}, toPDs xs = some ps → ∀ d ∈ xs, ∃ p ∈ ps, toPD d = some p := by
    intro xs
    induction xs with
    | nil => intro ps _ d hd; cases hd
    | cons x xs ih =>
      intro ps e d hd
      simp only [toPDs, Option.bind_eq_some_iff, Option.map_eq_some_iff] at e
      obtain ⟨p, e1, qs, e2, rfl⟩ := e
      rcases List.mem_cons.mp hd with z | z
      · rw [z]; exact ⟨p, List.mem_cons_self, e1⟩
      · obtain ⟨q, hq, eq⟩ := ih e2 d z
        exact ⟨q, List.mem_cons_of_mem _ hq, eq⟩
  intro ds
  induction ds with
  | nil => exact fun _ => ⟨[], by simp [toPDs], fun _ h => by cases h⟩
  | cons d ds ih =>
    intro sb
    obtain ⟨p, hp, ep⟩ := at_ e d (sb d (by simp))
    obtain ⟨qs, eq, sq⟩ := ih fun x hx => sb x (by simp [hx])
    refine ⟨p :: qs, ?_, fun q hq => (List.mem_cons.mp hq).elim (fun z => by rw [z]; exact hp) (sq q)⟩
    simp [toPDs, ep, eq]
theorem KeyAt.same {H' : Hp} {d : D} {p : Addr × NestedKey} (e : Same H H') (k : KeyAt K H O d p) : KeyAt K H' O d p := ⟨k.1.same e, k.2⟩
theorem nd_of_map {α β : Type} {f : α → β} {l : List α} (h : (l.map f).Nodup) : l.Nodup := nodup_of_map h
theorem ssn_go {w : World} {Q : VK} {us : List V} {xs : List D} {a : Addr} (ha : SqT K H a us ∨ SqL K H a us) (r : Reps K H O us xs) (q : VN K H O Q (ssn xs)) : rSetN K w [V.ref a] H fun v H2 => rSortN K w [v] H2 Q := by
  unfold ssn at q
  cases ep : toPDs xs with
  | none => rw [ep] at q; exact q.elim
  | some ps =>
    rw [ep, Option.bind_some] at q
    split at q
    · rename_i c
      obtain ⟨c1, c2, c3, c4⟩ := c
      obtain ⟨ks, rfl, lk, k1, k2⟩ := keys_of r c3
      refine ⟨a, ks, rfl, ha, fun p hp => let ⟨d, _, k⟩ := k1 p hp; ⟨O, d, k⟩, by omega, fun b L nb sb cov nd => ?_⟩
      have sm : Same H (upd H b (SetNO w b L)) := same_new nb
      have kL : ∀ p ∈ L, ∃ d ∈ xs, KeyAt K (upd H b (SetNO w b L)) O d p := fun p hp => let ⟨d, hd, k⟩ := k1 p (sb p hp); ⟨d, hd, k.same sm⟩
      have lenL : L.length ≤ 2047 := by
        have : L.Nodup := nd_of_map nd
        have := List.Nodup.length_le_of_subset this fun p hp => sb p hp
        omega
      refine ⟨b, L, rfl, upd_same, fun p hp => let ⟨d, _, k⟩ := kL p hp; ⟨O, d, k⟩, lenL, fun L' pm => ?_⟩
      obtain ⟨ds, rd, ek, sd⟩ := reps_pick fun p hp => kL p (pm.mem_iff.mp hp)
      obtain ⟨qs, eq, sq⟩ := toPDs_sub ep sd
      obtain ⟨bs, b1, b2, b3, b4⟩ := zip3 rd eq
      obtain ⟨a1, a2, a3⟩ := sortOk_ok c1
      have ndk : (ds.map keyT).Nodup := by
        rw [ek]
        have n2 : (L'.map (·.2)).Nodup := (pm.map (·.2)).nodup_iff.mpr nd
        have e3 : L'.map (fun p => some p.2) = (L'.map (·.2)).map some := by rw [List.map_map]; rfl
        rw [e3]
        exact List.pairwise_map.mpr (List.Pairwise.imp (fun h z => h (Option.some.inj z)) n2)
      have pmd : ds.Perm (dedK xs) := by
        refine (List.perm_ext_iff_of_nodup (nd_of_map ndk) (dedK_nd xs)).mpr fun d => ?_
        rw [dedK_mem c3]
        refine ⟨sd d, fun hd => ?_⟩
        obtain ⟨p, hp, kd⟩ := k2 d hd
        obtain ⟨p', hp', e4⟩ := List.mem_map.mp (cov p hp)
        have : some p'.2 ∈ ds.map keyT := by rw [ek]; exact List.mem_map.mpr ⟨p', pm.mem_iff.mpr hp', rfl⟩
        obtain ⟨d', hd', e5⟩ := List.mem_map.mp this
        rw [e4] at e5
        rw [keyT_inj kd.2 e5]
        exact hd'
      refine ⟨bs, b1, fun b hb => (b4 b hb).1, by rw [b3]; exact fun x hx y hy => a1 x (sq x hx) y (sq y hy), by
        rw [b3]
        rcases a2 with a2 | a2
        · exact .inl fun x hx => a2 x (sq x hx)
        · exact .inr fun x hx => a2 x (sq x hx), fun b hb => a3 _ (sq _ (by rw [← b3]; exact List.mem_map.mpr ⟨b, hb, rfl⟩)), fun p np => ?_⟩
      have el : srtD (dedK xs) = (bs.mergeSort (PySem.W.dataLe false fun b : B3 => b.2.2)).map (·.2.1) := by
        rw [← c4 ds pmd]
        unfold srtD
        rw [eq]
        show sortD ds qs = _
        unfold sortD
        have z := List.map_mergeSort (r := PySem.W.dataLe false fun b : B3 => b.2.2) (s := PySem.W.dataLe false fun b : D × PyData => b.2) (f := fun b : B3 => b.2) (l := bs) (fun _ _ _ _ => rfl)
        rw [← b2, ← z, List.map_map]
        rfl
      have npH : H p = none := by
        by_cases e : p = b
        · rw [e, upd_same] at np; cases np
        · rwa [upd_ne e] at np
      have q1 : ∀ v a' H', Same H H' → H a' = none → RepN K H' (Ad O a') v (.lst (srtD (dedK xs))) a' → Q v H' := q
      refine q1 _ p _ (sm.trans (same_new np)) npH ?_
      rw [el]
      refine RepN.newL np ?_ (reps_of fun b hb => (b4 b (List.mem_mergeSort.mp hb)).2)
      rw [List.length_map, List.length_mergeSort, sizeLine_eq]
      have : bs.length = L'.length := by
        have := congrArg List.length b1
        simpa using this
      have := pm.length_eq
      omega
    · exact q.elim
end
section
variable {X : Cx} {E : EX}
theorem en_ssetN {e : Expr} {f : Sls → Res D} {p p2 pos pos2 : Pos} (hc : X.calm = true) (hu : X.A.units + 65 < cLine) (hm : X.mg "sorted" = none) (hm2 : X.mg "set" = none) (he : EB X E e f) (hg : Gl X "sorted" := by rfl) (hg2 : Gl X "set" := by rfl)
    (hs : starEach [e] X.env = (false, eval e X.env) :: starEach [] X.env := by rfl) (hs2 : starEach [.Call (.Name "set" p2) [e] [] pos2] X.env = (false, eval (.Call (.Name "set" p2) [e] [] pos2) X.env) :: starEach [] X.env := by rfl) :
    EN X E (.Call (.Name "sorted" p) [.Call (.Name "set" p2) [e] [] pos2] [] pos) (mBI dSSN [f]) :=
  pe_imp (pe_callB (cr_sortN hc hu) hg hm (by decide +kernel) (pa_cons (pe_callTy (cr_setN hc hu) hg2 hm2 (by decide +kernel) (ec_cons he ec_nil hs) (by decide) (by decide) hs rfl) pa_nil hs2) (by decide) (by decide) hs2 rfl) fun σ H Q ⟨ρ, O, FF, s, p⟩ => ⟨ρ, O, FF, s, p.bind.imp fun ds p1 vs H1 e1 r1 => by
    have q := p1.vn e1
    unfold dSSN at q
    split at q
    · obtain ⟨v, rfl, rv⟩ := r1.one
      obtain ⟨a, us, rfl, h1, h2, h3⟩ := rv.tup
      exact ssn_go (.inl h1) h3 q
    · obtain ⟨v, rfl, rv⟩ := r1.one
      obtain ⟨a, us, rfl, h1, h2, h3⟩ := rv.lst
      exact ssn_go (.inr h1) h3 q
    · exact q.elim⟩
end
end PP

/-! the mirrors that many laws have alike -/
namespace PC
open PySem L2 PP
open PP.Res (ok exc bad)
def tb_OTHERS : List (Str × D) := [("#", .str "."), (".", .str "#")]
def tb_STEPS : List (Str × D) := [("d", .tup [.int 1, .int 0]), ("l", .tup [.int 0, .int (-1)]), ("r", .tup [.int 0, .int 1]), ("u", .tup [.int (-1), .int 0])]
/-- value least most -/
noncomputable def b_is_whole : Sls → Fl :=
    (sRet (mAndV (mBI dIsi [(mVar 0), (mC (.ty "int"))]) (mAndV (mNotV (mBI dIsi [(mVar 0), (mC (.ty "bool"))])) (mChain dLeX dLeX (mVar 1) (mVar 0) (mVar 2)))))
noncomputable def F_is_whole : List D → Res D := runF 3 3 b_is_whole
/-- self rows row sign -/
noncomputable def b_Maze : Sls → Fl :=
    (sSeq (sIf (mOr (mNot (mT (mBI dIsi [(mVar 1), (mC (.ty "tuple"))]))) (mOr (mNot (mT (mChain dLeX dLeX (mC (.int 1)) (mBI dLenX [(mVar 1)]) (mC (.int 14))))) (mNot (mT (mBI dAll [(mLc (mIt (mVar 1)) [2] (tgName 2) mYes (mBI dIsi [(mVar 2), (mC (.ty "str"))]))]))))) (sRaise "BadMaze") sNx)
    (sSeq (sIf (mOr (mNot (mT (mChain dLeX dLeX (mC (.int 1)) (mBI dLenX [(mOp2 dIxX (mVar 1) (mC (.int 0)))]) (mC (.int 14))))) (mNot (mT (mBI dAll [(mLc (mIt (mVar 1)) [2] (tgName 2) mYes (mOp2 dEq (mBI dLenX [(mVar 2)]) (mBI dLenX [(mOp2 dIxX (mVar 1) (mC (.int 0)))])))])))) (sRaise "BadMaze") sNx)
    (sSeq (sIf (mNot (mT (mBI dAll [(mLc (mIt (mVar 1)) [2] (tgName 2) mYes (mOp2 dEq (mBI dLenX [(mLc (mIt (mVar 2)) [3] (tgName 3) (mT (mKNotIn tb_OTHERS (mVar 3))) (mVar 3))]) (mC (.int 0))))]))) (sRaise "BadMaze") sNx)
    (sSeq (sFldS 0 "Maze" "rows" (mVar 1))
    (sSeq (sFldS 0 "Maze" "height" (mBI dLenX [(mVar 1)]))
    (sFldS 0 "Maze" "width" (mBI dLenX [(mOp2 dIxX (mVar 1) (mC (.int 0)))])))))))
noncomputable def I_Maze : Addr → List D → Res D := runI 4 1 "Maze" b_Maze
open Classical in
noncomputable def F_Maze (ds : List D) : Res D := if ∀ a, I_Maze a ds = I_Maze 0 ds then I_Maze 0 ds else bad
theorem hF_Maze (a : Addr) (ds : List D) (d : D) (h : F_Maze ds = ok d) : I_Maze a ds = ok d := by
  unfold F_Maze at h
  split at h
  · rename_i q
    rw [q a]; exact h
  · cases h
theorem hE_Maze (a : Addr) (ds : List D) (c : Str) (h : F_Maze ds = exc c) : I_Maze a ds = exc c := by
  unfold F_Maze at h
  split at h
  · rename_i q
    rw [q a]; exact h
  · cases h
/-- maze value -/
noncomputable def b_is_cell : Sls → Fl :=
    (sSeq (sIf (mOr (mNot (mT (mBI dIsi [(mVar 1), (mC (.ty "tuple"))]))) (mT (mOp2 dNe (mBI dLenX [(mVar 1)]) (mC (.int 2))))) (sRet (mC (.bl false))) sNx)
    (sRet (mAndV (mCall F_is_whole [(mOp2 dIxX (mVar 1) (mC (.int 0))), (mC (.int 0)), (mOp2 dSub (mFld ["Maze"] "height" (mVar 0)) (mC (.int 1)))]) (mCall F_is_whole [(mOp2 dIxX (mVar 1) (mC (.int 1))), (mC (.int 0)), (mOp2 dSub (mFld ["Maze"] "width" (mVar 0)) (mC (.int 1)))]))))
noncomputable def F_is_cell : List D → Res D := runF 2 2 b_is_cell
/-- maze cell -/
noncomputable def b_is_open : Sls → Fl :=
    (sRet (mAndV (mCall F_is_cell [(mVar 0), (mVar 1)]) (mOp2 dEq (mOp2 dIxX (mOp2 dIxX (mFld ["Maze"] "rows" (mVar 0)) (mOp2 dIxX (mVar 1) (mC (.int 0)))) (mOp2 dIxX (mVar 1) (mC (.int 1)))) (mC (.str ".")))))
noncomputable def F_is_open : List D → Res D := runF 2 2 b_is_open
/-- maze values value -/
noncomputable def b_check_open : Sls → Fl :=
    (sIf (mNot (mT (mBI dAll [(mLc (mIt (mVar 1)) [2] (tgName 2) mYes (mCall F_is_open [(mVar 0), (mVar 2)]))]))) (sRaise "BadCell") sNx)
noncomputable def F_check_open : List D → Res D := runF 3 2 b_check_open
/-- maze cell found down across one -/
noncomputable def b_beside : Sls → Fl :=
    (sSeq (sSet 2 (mLc (mIt (mC (.tup [.tup [.int (-1), .int 0], .tup [.int 0, .int (-1)], .tup [.int 0, .int 1], .tup [.int 1, .int 0]]))) [3, 4] (tgTup 2 (tgsCons (tgName 3) (tgsCons (tgName 4) tgsNil))) mYes (mTup [(mOp2 dAdd (mOp2 dIxX (mVar 1) (mC (.int 0))) (mVar 3)), (mOp2 dAdd (mOp2 dIxX (mVar 1) (mC (.int 1))) (mVar 4))])))
    (sRet (mBI dTuple [(mLc (mIt (mVar 2)) [5] (tgName 5) (mT (mCall F_is_open [(mVar 0), (mVar 5)])) (mVar 5))])))
noncomputable def F_beside : List D → Res D := runF 6 2 b_beside
/-- value sign -/
noncomputable def b_is_word : Sls → Fl :=
    (sRet (mAndV (mBI dIsi [(mVar 0), (mC (.ty "str"))]) (mBI dAll [(mLc (mIt (mVar 0)) [1] (tgName 1) mYes (mKIn tb_STEPS (mVar 1)))])))
noncomputable def F_is_word : List D → Res D := runF 2 1 b_is_word
/-- maze cell word -/
noncomputable def b__check : Sls → Fl :=
    (sSeq (sDrop (mCall F_check_open [(mVar 0), (mLst [(mVar 1)])]))
    (sIf (mNot (mT (mCall F_is_word [(mVar 2)]))) (sRaise "BadWord") sNx))
noncomputable def F__check : List D → Res D := runF 3 3 b__check
/-- maze cell sign down across there -/
noncomputable def b_stepped : Sls → Fl :=
    (sSeq (sAsg (tgTup 2 (tgsCons (tgName 3) (tgsCons (tgName 4) tgsNil))) (mKGet tb_STEPS (mVar 2)))
    (sSeq (sSet 5 (mTup [(mOp2 dAdd (mOp2 dIxX (mVar 1) (mC (.int 0))) (mVar 3)), (mOp2 dAdd (mOp2 dIxX (mVar 1) (mC (.int 1))) (mVar 4))]))
    (sRet (mIf (mT (mCall F_is_open [(mVar 0), (mVar 5)])) (mVar 5) (mVar 1)))))
noncomputable def F_stepped : List D → Res D := runF 6 3 b_stepped
/-- maze cell word signs sign there -/
noncomputable def b_told : Sls → Fl :=
    (sSeq (sSet 3 (mC (.str "")))
    (sSeq (sFor (mIt (mVar 2)) (tgName 4)
    (sSeq (sSet 5 (mCall F_stepped [(mVar 0), (mVar 1), (mVar 4)]))
    (sSeq (sSet 3 (mOp2 dAdd (mVar 3) (mIf (mT (mOp2 dEq (mVar 5) (mVar 1))) (mC (.str "0")) (mC (.str "1")))))
    (sSet 1 (mVar 5)))))
    (sRet (mVar 3))))
noncomputable def F_told : List D → Res D := runF 6 3 b_told
/-- maze cell word -/
noncomputable def b_report : Sls → Fl :=
    (sSeq (sDrop (mCall F__check [(mVar 0), (mVar 1), (mVar 2)]))
    (sRet (mCall F_told [(mVar 0), (mVar 1), (mVar 2)])))
noncomputable def F_report : List D → Res D := runF 3 3 b_report
/-- maze value one other at -/
noncomputable def b_are_pairs : Sls → Fl :=
    (sSeq (sIf (mOr (mNot (mT (mBI dIsi [(mVar 1), (mC (.ty "tuple"))]))) (mNot (mT (mBI dAll [(mLc (mIt (mVar 1)) [2] (tgName 2) mYes (mAndV (mBI dIsi [(mVar 2), (mC (.ty "tuple"))]) (mOp2 dEq (mBI dLenX [(mVar 2)]) (mC (.int 2)))))])))) (sRet (mC (.bl false))) sNx)
    (sSeq (sIf (mNot (mT (mBI dAll [(mLc (mIt (mVar 1)) [2, 3] (tgTup 2 (tgsCons (tgName 2) (tgsCons (tgName 3) tgsNil))) mYes (mAndV (mCall F_is_open [(mVar 0), (mVar 2)]) (mAndV (mCall F_is_open [(mVar 0), (mVar 3)]) (mOp2 dLtX (mVar 2) (mVar 3)))))]))) (sRet (mC (.bl false))) sNx)
    (sRet (mBI dAll [(mLc (mRng rng1 [(mOp2 dSub (mBI dLenX [(mVar 1)]) (mC (.int 1)))]) [4] (tgName 4) mYes (mOp2 dLtX (mOp2 dIxX (mVar 1) (mVar 4)) (mOp2 dIxX (mVar 1) (mOp2 dAdd (mVar 4) (mC (.int 1))))))]))))
noncomputable def F_are_pairs : List D → Res D := runF 5 2 b_are_pairs
/-- maze pairs known one other sign here there is_apart pair -/
noncomputable def b_alike_fault : Sls → Fl :=
    (sSeq (sIf (mNot (mT (mCall F_are_pairs [(mVar 0), (mVar 1)]))) (sRet (mTup [(mC (.str "form"))])) sNx)
    (sSeq (sSet 2 (mDc (mIt (mVar 1)) [9] (tgName 9) mYes (mVar 9) (mC (.bl true))))
    (sSeq (sFor (mIt (mVar 1)) (tgTup 2 (tgsCons (tgName 3) (tgsCons (tgName 4) tgsNil)))
    (sFor (mIt (mC (.str "dlru"))) (tgName 5)
    (sSeq (sPar 6 7 (mCall F_stepped [(mVar 0), (mVar 3), (mVar 5)]) (mCall F_stepped [(mVar 0), (mVar 4), (mVar 5)]))
    (sSeq (sSet 8 (mAndV (mOp2 dNe (mVar 6) (mVar 7)) (mOp2 dNotInX (mTup [(mBI dMinX [(mVar 6), (mVar 7)]), (mBI dMaxX [(mVar 6), (mVar 7)])]) (mVar 2))))
    (sIf (mOr (mT (mOp2 dNe (mOp2 dEq (mVar 6) (mVar 3)) (mOp2 dEq (mVar 7) (mVar 4)))) (mT (mVar 8))) (sRet (mTup [(mC (.str "sign")), (mVar 3), (mVar 4), (mVar 5)])) sNx)))))
    (sRet (mC .non)))))
noncomputable def F_alike_fault : List D → Res D := runF 10 2 b_alike_fault
/-- script many draws seed cell number k -/
noncomputable def b__law_draws : Sls → Fl :=
    (sSeq (sSetO 2 (mLst []))
    (sSeq (sSet 3 (mC (.int 7)))
    (sSeq (sFor (mIt (mSl dSl (mVar 0) mNoPart (mPart (mC (.int 63))))) (tgName 4)
    (sSeq (sSet 5 (mBI dAbs [(mVar 4)]))
    (sSeq (sSet 3 (mOp2 dMod (mBI dInt [(mOp2 dAdd (mOp2 dAdd (mOp2 dMulX (mVar 3) (mC (.int 48271))) (mVar 5)) (mC (.int 11)))]) (mC (.int 2147483647))))
    (sIf (mT (mOp2 dGeX (mVar 5) (mOp2 dPow (mC (.int 10)) (mC (.int 18))))) (sFor (mRng rng1 [(mC (.int 60))]) (tgName 6)
    (sIf (mT (mOp2 dGtX (mVar 5) (mC (.int 0)))) (sSeq (sApp 2 (mOp2 dMod (mBI dInt [(mVar 5)]) (mC (.int 1009))))
    (sSet 5 (mOp2 dDiv (mVar 5) (mC (.int 1009))))) sNx)) (sApp 2 (mOp2 dMod (mOp2 dDiv (mBI dInt [(mOp2 dAdd (mOp2 dMulX (mVar 3) (mC (.int 16807))) (mC (.int 5)))]) (mC (.int 3))) (mC (.int 65521))))))))
    (sSeq (sFor (mRng rng1 [(mVar 1)]) (tgName 6)
    (sIf (mT (mOp2 dLtX (mBI dLenX [(mVarB 2)]) (mVar 1))) (sSeq (sSet 3 (mOp2 dMod (mBI dInt [(mOp2 dAdd (mOp2 dAdd (mOp2 dMulX (mVar 3) (mC (.int 69621))) (mVar 6)) (mC (.int 1)))]) (mC (.int 2147483647))))
    (sApp 2 (mOp2 dMod (mOp2 dDiv (mBI dInt [(mVar 3)]) (mC (.int 7))) (mC (.int 65521))))) sNx))
    (sRet (mSl dSl (mVarB 2) mNoPart (mPart (mVar 1))))))))
noncomputable def F__law_draws : List D → Res D := runF 7 2 b__law_draws
/-- draws high wide found row draw k -/
noncomputable def b__law_rows : Sls → Fl :=
    (sSeq (sSetO 3 (mLst []))
    (sSeq (sFor (mRng rng1 [(mVar 1)]) (tgName 4)
    (sSeq (sSet 5 (mBI dInt [(mOp2 dIxX (mVar 0) (mOp2 dAdd (mC (.int 1)) (mOp2 dMod (mVar 4) (mOp2 dSub (mBI dLenX [(mVar 0)]) (mC (.int 1))))))]))
    (sApp 3 (mM1 dJoin (mC (.str "")) (mLc (mRng rng1 [(mVar 2)]) [6] (tgName 6) mYes (mIf (mT (mOp2 dLtX (mOp2 dMod (mOp2 dDiv (mBI dInt [(mOp2 dAdd (mOp2 dAdd (mOp2 dMulX (mVar 5) (mOp2 dAdd (mVar 6) (mC (.int 3)))) (mOp2 dMulX (mVar 6) (mC (.int 37)))) (mOp2 dMulX (mVar 4) (mC (.int 11))))]) (mC (.int 7))) (mC (.int 8))) (mOp2 dMod (mBI dInt [(mOp2 dIxX (mVar 0) (mC (.int 0)))]) (mC (.int 4))))) (mC (.str "#")) (mC (.str "."))))))))
    (sRet (mBI dTuple [(mOp2 dAdd (mLst [(mOp2 dAdd (mC (.str ".")) (mSl dSl (mOp2 dIxX (mVarB 3) (mC (.int 0))) (mPart (mC (.int 1))) mNoPart))]) (mSl dSl (mVarB 3) (mPart (mC (.int 1))) mNoPart))]))))
noncomputable def F__law_rows : List D → Res D := runF 7 3 b__law_rows
/-- rows found row k -/
noncomputable def b__law_cells : Sls → Fl :=
    (sSeq (sSet 1 (mLst []))
    (sSeq (sFor (mRng rng1 [(mBI dLenX [(mVar 0)])]) (tgName 2)
    (sSet 1 (mOp2 dAdd (mVar 1) (mLc (mRng rng1 [(mBI dLenX [(mOp2 dIxX (mVar 0) (mC (.int 0)))])]) [3] (tgName 3) (mT (mOp2 dEq (mOp2 dIxX (mOp2 dIxX (mVar 0) (mVar 2)) (mVar 3)) (mC (.str ".")))) (mTup [(mVar 2), (mVar 3)])))))
    (sRet (mBI dTuple [(mVar 1)]))))
noncomputable def F__law_cells : List D → Res D := runF 4 1 b__law_cells
/-- rows cell found step there -/
noncomputable def b__law_near : Sls → Fl :=
    (sSeq (sSetO 2 (mLst []))
    (sSeq (sFor (mIt (mLst [(mTup [(mOp1 dNeg (mC (.int 1))), (mC (.int 0))]), (mTup [(mC (.int 0)), (mOp1 dNeg (mC (.int 1)))]), (mTup [(mC (.int 0)), (mC (.int 1))]), (mTup [(mC (.int 1)), (mC (.int 0))])])) (tgName 3)
    (sSeq (sSet 4 (mTup [(mOp2 dAdd (mOp2 dIxX (mVar 1) (mC (.int 0))) (mOp2 dIxX (mVar 3) (mC (.int 0)))), (mOp2 dAdd (mOp2 dIxX (mVar 1) (mC (.int 1))) (mOp2 dIxX (mVar 3) (mC (.int 1))))]))
    (sIf (mAnd (mT (mChain dLeX dLtX (mC (.int 0)) (mOp2 dIxX (mVar 4) (mC (.int 0))) (mBI dLenX [(mVar 0)]))) (mAnd (mT (mChain dLeX dLtX (mC (.int 0)) (mOp2 dIxX (mVar 4) (mC (.int 1))) (mBI dLenX [(mOp2 dIxX (mVar 0) (mC (.int 0)))]))) (mT (mOp2 dEq (mOp2 dIxX (mOp2 dIxX (mVar 0) (mOp2 dIxX (mVar 4) (mC (.int 0)))) (mOp2 dIxX (mVar 4) (mC (.int 1)))) (mC (.str ".")))))) (sApp 2 (mVar 4)) sNx)))
    (sFrz 2 (sRet (mVar 2)))))
noncomputable def F__law_near : List D → Res D := runF 5 2 b__law_near
/-- rows cell sign step there -/
noncomputable def b__law_step : Sls → Fl :=
    (sSeq (sSet 3 (mDispGet [("d", (mTup [(mC (.int 1)), (mC (.int 0))])), ("l", (mTup [(mC (.int 0)), (mOp1 dNeg (mC (.int 1)))])), ("r", (mTup [(mC (.int 0)), (mC (.int 1))])), ("u", (mTup [(mOp1 dNeg (mC (.int 1))), (mC (.int 0))]))] (mVar 2)))
    (sSeq (sSet 4 (mTup [(mOp2 dAdd (mOp2 dIxX (mVar 1) (mC (.int 0))) (mOp2 dIxX (mVar 3) (mC (.int 0)))), (mOp2 dAdd (mOp2 dIxX (mVar 1) (mC (.int 1))) (mOp2 dIxX (mVar 3) (mC (.int 1))))]))
    (sRet (mIf (mT (mOp2 dInX (mVar 4) (mCall F__law_near [(mVar 0), (mVar 1)]))) (mVar 4) (mVar 1)))))
noncomputable def F__law_step : List D → Res D := runF 5 3 b__law_step
/-- rows cell word told_v sign there -/
noncomputable def b__law_led : Sls → Fl :=
    (sSeq (sSet 3 (mC (.str "")))
    (sSeq (sFor (mIt (mVar 2)) (tgName 4)
    (sSeq (sSet 5 (mCall F__law_step [(mVar 0), (mVar 1), (mVar 4)]))
    (sPar 1 3 (mVar 5) (mOp2 dAdd (mVar 3) (mIf (mT (mOp2 dEq (mVar 5) (mVar 1))) (mC (.str "0")) (mC (.str "1")))))))
    (sRet (mTup [(mVar 1), (mVar 3)]))))
noncomputable def F__law_led : List D → Res D := runF 6 3 b__law_led
/-- cells found k other -/
noncomputable def b__law_pairs : Sls → Fl :=
    (sSeq (sSet 1 (mLst []))
    (sSeq (sFor (mRng rng1 [(mBI dLenX [(mVar 0)])]) (tgName 2)
    (sSet 1 (mOp2 dAdd (mVar 1) (mLc (mIt (mSl dSl (mVar 0) (mPart (mOp2 dAdd (mVar 2) (mC (.int 1)))) mNoPart)) [3] (tgName 3) mYes (mTup [(mOp2 dIxX (mVar 0) (mVar 2)), (mVar 3)])))))
    (sRet (mVar 1))))
noncomputable def F__law_pairs : List D → Res D := runF 4 1 b__law_pairs
/-- rows pair sign -/
noncomputable def b__law_behind : Sls → Fl :=
    (sRet (mBI dTuple [(mBI dSortedX [(mLst [(mCall F__law_step [(mVar 0), (mOp2 dIxX (mVar 1) (mC (.int 0))), (mVar 2)]), (mCall F__law_step [(mVar 0), (mOp2 dIxX (mVar 1) (mC (.int 1))), (mVar 2)])])])]))
noncomputable def F__law_behind : List D → Res D := runF 3 3 b__law_behind
/-- cells value one -/
noncomputable def b__law_is_cell : Sls → Fl :=
    (sSeq (sIf (mOr (mNot (mT (mBI dIsi [(mVar 1), (mC (.ty "tuple"))]))) (mOr (mT (mOp2 dNe (mBI dLenX [(mVar 1)]) (mC (.int 2)))) (mNot (mT (mBI dAll [(mLc (mIt (mVar 1)) [2] (tgName 2) mYes (mAndV (mBI dIsi [(mVar 2), (mC (.ty "int"))]) (mNotV (mBI dIsi [(mVar 2), (mC (.ty "bool"))]))))]))))) (sRet (mC (.bl false))) sNx)
    (sRet (mOp2 dInX (mVar 1) (mVar 0))))
noncomputable def F__law_is_cell : List D → Res D := runF 3 2 b__law_is_cell
/-- rows cells left known turn fresh pair sign there bumps cell -/
noncomputable def b__law_told : Sls → Fl :=
    (sSeq (sParFN 2 3 (mCall F__law_pairs [(mVar 1)]) (mC (.dct [])))
    (sSeq (sFor (mRng rng1 [(mOp2 dAdd (mBI dLenX [(mVar 2)]) (mC (.int 1)))]) (tgName 4)
    (sSeq (sSetO 5 (mC (.dct [])))
    (sSeq (sFor (mIt (mVar 2)) (tgName 6)
    (sFor (mIt (mC (.str "urld"))) (tgName 7)
    (sSeq (sSet 8 (mCall F__law_behind [(mVar 0), (mVar 6), (mVar 7)]))
    (sSeq (sSet 9 (mLc (mIt (mVar 6)) [10] (tgName 10) mYes (mOp2 dEq (mCall F__law_step [(mVar 0), (mVar 10), (mVar 7)]) (mVar 10))))
    (sIf (mOr (mT (mOp2 dNe (mOp2 dIxX (mVar 9) (mC (.int 0))) (mOp2 dIxX (mVar 9) (mC (.int 1))))) (mT (mOp2 dInX (mVar 8) (mVarB 3)))) (sPut 5 (mVar 6) (mVar 7)) sNx)))))
    (sSeq (sIf (mT (mOp2 dEq (mBI dLenX [(mVarB 5)]) (mC (.int 0)))) (sFrz 3 (sRet (mVar 3))) sNx)
    (sSeq (sSet 2 (mLc (mIt (mVar 2)) [6] (tgName 6) (mT (mOp2 dNotInX (mVar 6) (mVarB 5))) (mVar 6)))
    (sFrz 5 (sFor (mItD (mVar 5)) (tgName 6)
    (sPut 3 (mVar 6) (mOp2 dIxX (mVarB 5) (mVar 6))))))))))
    (sFrz 3 (sRet (mVar 3)))))
noncomputable def F__law_told : List D → Res D := runF 11 2 b__law_told
/-- known one other -/
noncomputable def b__law_alike : Sls → Fl :=
    (sRet (mOrV (mOp2 dEq (mVar 1) (mVar 2)) (mOp2 dNotInX (mTup [(mBI dMinX [(mVar 1), (mVar 2)]), (mBI dMaxX [(mVar 1), (mVar 2)])]) (mVar 0))))
noncomputable def F__law_alike : List D → Res D := runF 3 3 b__law_alike
/-- rows cells value known pair sign there bumps one k cell -/
noncomputable def b__law_due : Sls → Fl :=
    (sSeq (sIf (mOr (mNot (mT (mBI dIsi [(mVar 2), (mC (.ty "tuple"))]))) (mNot (mT (mBI dAll [(mLc (mIt (mVar 2)) [8] (tgName 8) mYes (mAndV (mBI dIsi [(mVar 8), (mC (.ty "tuple"))]) (mOp2 dEq (mBI dLenX [(mVar 8)]) (mC (.int 2)))))])))) (sRet (mTup [(mC (.str "form"))])) sNx)
    (sSeq (sIf (mNot (mT (mBI dAll [(mLc (mIt (mVar 2)) [8] (tgName 8) mYes (mAndV (mCall F__law_is_cell [(mVar 1), (mOp2 dIxX (mVar 8) (mC (.int 0)))]) (mAndV (mCall F__law_is_cell [(mVar 1), (mOp2 dIxX (mVar 8) (mC (.int 1)))]) (mOp2 dLtX (mOp2 dIxX (mVar 8) (mC (.int 0))) (mOp2 dIxX (mVar 8) (mC (.int 1)))))))]))) (sRet (mTup [(mC (.str "form"))])) sNx)
    (sSeq (sIf (mT (mBI dAny [(mLc (mRng rng1 [(mOp2 dSub (mBI dLenX [(mVar 2)]) (mC (.int 1)))]) [9] (tgName 9) mYes (mOp2 dGeX (mOp2 dIxX (mVar 2) (mVar 9)) (mOp2 dIxX (mVar 2) (mOp2 dAdd (mVar 9) (mC (.int 1))))))])) (sRet (mTup [(mC (.str "form"))])) sNx)
    (sSeq (sSetO 3 (mC (.dct [])))
    (sSeq (sFor (mIt (mVar 2)) (tgName 4)
    (sPut 3 (mVar 4) (mC (.bl true))))
    (sSeq (sFor (mIt (mVar 2)) (tgName 4)
    (sFor (mIt (mC (.str "dlru"))) (tgName 5)
    (sSeq (sSet 6 (mCall F__law_behind [(mVar 0), (mVar 4), (mVar 5)]))
    (sSeq (sSet 7 (mLc (mIt (mVar 4)) [10] (tgName 10) mYes (mOp2 dEq (mCall F__law_step [(mVar 0), (mVar 10), (mVar 5)]) (mVar 10))))
    (sIf (mOr (mT (mOp2 dNe (mOp2 dIxX (mVar 7) (mC (.int 0))) (mOp2 dIxX (mVar 7) (mC (.int 1))))) (mAnd (mT (mOp2 dNe (mOp2 dIxX (mVar 6) (mC (.int 0))) (mOp2 dIxX (mVar 6) (mC (.int 1))))) (mT (mOp2 dNotInX (mVar 6) (mVarB 3))))) (sRet (mTup [(mC (.str "sign")), (mOp2 dIxX (mVar 4) (mC (.int 0))), (mOp2 dIxX (mVar 4) (mC (.int 1))), (mVar 5)])) sNx)))))
    (sRet (mC .non))))))))
noncomputable def F__law_due : List D → Res D := runF 11 3 b__law_due
end PC

namespace PP
open PySem L2
open Res (ok exc bad)
theorem lit_hash : Str.ofString "#" = mkS [35] := by decide +kernel
theorem lit_dot : Str.ofString "." = mkS [46] := by decide +kernel
theorem lit_nil : Str.ofString "" = mkS [] := by decide +kernel
abbrev rowsL (rows : List (List Nat)) : List D := rows.map tx
abbrev rowsD (rows : List (List Nat)) : D := .tup (rowsL rows)
structure OkRows (rows : List (List Nat)) (h w : Nat) : Prop where
  len : rows.length = h
  wid : ∀ l ∈ rows, l.length = w
  sgn : ∀ l ∈ rows, ∀ c ∈ l, c = 35 ∨ c = 46
  h1 : 1 ≤ h
  h2 : h ≤ 14
  w1 : 1 ≤ w
  w2 : w ≤ 14
/-- a comprehension over numbers from 0 -/
theorem lc_range {it : Sls → Res (List D)} {i n : Nat} {te : Sls → Res D} {ρ : Sls} {g : Nat → D} (hi : it ρ = ok (rangeD 0 n)) (h : ∀ k < n, te ((ρ.set i .no).set i (.fz (.int (k : Int)))) = ok (g k)) : mLc it [i] (tgName i) mYes te ρ = ok (.lst ((List.range n).map g)) := by
  unfold mLc
  rw [hi]
  simp only [Res.ok_bind]
  rw [rangeD_map, compL_all (g := g) fun k hk => ?_]
  · rfl
  · have hk' := List.mem_range.mp hk
    show (tgName i (.int (0 + (k : Int))) (wipeS ρ [i]) >>= fun ρ' => mYes ρ' >>= fun b => if b then te ρ' >>= fun y => ok (some y) else ok none) = _
    rw [Int.zero_add]
    have := h k hk'
    simp only [tgName, wipeS, mYes, Res.ok_bind, if_true]
    rw [this]
    rfl
def rst (ds : List Int) (h w : Int) (found : List (List Nat)) (s4 s5 s6 : Sl) : Sls := [.fz (.lst (ds.map .int)), .fz (.int h), .fz (.int w), .ow (.lst (rowsL found)), s4, s5, s6]
theorem rng_nat {f : Sls → Res D} {ρ : Sls} {n : Nat} (h : f ρ = ok (.int (n : Int))) (hn : n ≤ 1000000) : mRng rng1 [f] ρ = ok (rangeD 0 n) := by
  have : rng1 [.int (n : Int)] = some (rangeD 0 n) := by
    show (if (n : Int) ≤ 1000000 ∧ -1000000 ≤ (n : Int) then some (rangeD 0 (n : Int).toNat) else none) = _
    rw [if_pos (by omega)]
    rfl
  simp [mRng, mArgs, h, this]
def rowSign (draw row d0 : Int) (k : Nat) : Nat := if (draw * ((k : Int) + (3 : Int)) + (k : Int) * (37 : Int) + row * (11 : Int)) / (7 : Int) % (8 : Int) < d0 % (4 : Int) then 35 else 46
theorem ones_sum {α : Type} (g : α → Nat) : ∀ l : List α, ((l.map fun k => [g k]).map List.length).sum = l.length
  | [] => rfl
  | a :: r => by
    have := ones_sum g r
    simp only [List.map_cons, List.sum_cons, List.length_cons, List.length_nil] at this ⊢
    omega
theorem ones_flat {α : Type} (g : α → Nat) : ∀ l : List α, (l.map fun k => [g k]).flatten = l.map g
  | [] => rfl
  | a :: r => by
    rw [List.map_cons, List.flatten_cons, ones_flat g r]
    rfl
theorem dJoin_ones {α : Type} (g : α → Nat) (l : List α) (h : l.length ≤ 1000000) : dJoin (tx []) (.lst (l.map fun k => tx [g k])) = some (tx (l.map g)) := by
  have := dJoin_tx (ls := l.map fun k => [g k]) (by rw [ones_sum]; exact h)
  rw [List.map_map, ones_flat] at this
  exact this
theorem rows_step (ds : List Int) (h w : Nat) (found : List (List Nat)) (row : Nat) (s4 s5 s6 : Sl) (hd : Drawn ds) (hl : 2 ≤ ds.length) (hw : w ≤ 14) (hf : found.length ≤ 100) :
    ∃ l s4' s5' s6', thenF (tgName 4 (.int (0 + (row : Int))) (rst ds h w found s4 s5 s6)).quiet (rst ds h w found s4 s5 s6) (sSeq (sSet 5 (mBI dInt [(mOp2 dIx (mVar 0) (mOp2 dAdd (mC (.int 1)) (mOp2 dMod (mVar 4) (mOp2 dSub (mBI dLen [(mVar 0)]) (mC (.int 1))))))]))
    (sApp 3 (mM1 dJoin (mC (.str "")) (mLc (mRng rng1 [(mVar 2)]) [6] (tgName 6) mYes (mIf (mT (mOp2 dLt (mOp2 dMod (mOp2 dDiv (mBI dInt [(mOp2 dAdd (mOp2 dAdd (mOp2 dMul (mVar 5) (mOp2 dAdd (mVar 6) (mC (.int 3)))) (mOp2 dMul (mVar 6) (mC (.int 37)))) (mOp2 dMul (mVar 4) (mC (.int 11))))]) (mC (.int 7))) (mC (.int 8))) (mOp2 dMod (mBI dInt [(mOp2 dIx (mVar 0) (mC (.int 0)))]) (mC (.int 4))))) (mC (.str "#")) (mC (.str "."))))))) = .nx (rst ds h w (found ++ [l]) s4' s5' s6') ∧ l.length = w ∧ ∀ c ∈ l, c = 35 ∨ c = 46 := by
  have e0 : tgName 4 (.int (0 + (row : Int))) (rst ds h w found s4 s5 s6) = ok (rst ds h w found (.fz (.int row)) s5 s6) := by
    rw [Int.zero_add]
    rfl
  rw [e0]
  simp only [Res.quiet_ok, thenF_ok]
  have hm : (0 : Int) < (ds.length : Int) - 1 := by omega
  have hix : (1 + (row : Int) % ((ds.length : Int) - 1)).toNat < ds.length := by
    have a := Int.emod_nonneg (row : Int) (show ((ds.length : Int) - 1) ≠ 0 by omega)
    have b := Int.emod_lt_of_pos (row : Int) hm
    omega
  have h0 : (0 : Int) ≤ 1 + (row : Int) % ((ds.length : Int) - 1) := by
    have a := Int.emod_nonneg (row : Int) (show ((ds.length : Int) - 1) ≠ 0 by omega)
    omega
  generalize hq : ds[(1 + (row : Int) % ((ds.length : Int) - 1)).toNat] = draw
  have hdraw := hd draw (by rw [← hq]; exact List.getElem_mem _)
  have ex : dIx (.lst (ds.map .int)) (.int (1 + (row : Int) % ((ds.length : Int) - 1))) = some (.int draw) := by
    rw [dIx_lst h0, List.getElem?_map, List.getElem?_eq_getElem hix, hq]
    rfl
  have ex0 : dIx (.lst (ds.map .int)) (.int 0) = some (.int ds[0]) := by
    rw [dIx_lst (by decide), List.getElem?_map]
    show Option.map D.int ds[0]? = _
    rw [List.getElem?_eq_getElem (by omega)]
    rfl
  have e1 : sSet 5 (mBI dInt [(mOp2 dIx (mVar 0) (mOp2 dAdd (mC (.int 1)) (mOp2 dMod (mVar 4) (mOp2 dSub (mBI dLen [(mVar 0)]) (mC (.int 1))))))]) (rst ds h w found (.fz (.int row)) s5 s6) = .nx (rst ds h w found (.fz (.int row)) (.fz (.int draw)) s6) := by
    simp [sSet, mBI, mArgs, mVar, rst, mOp2, mC, dMod_i hm, ex]
  let g : Nat → Nat := rowSign draw row ds[0]
  have e2 : mLc (mRng rng1 [(mVar 2)]) [6] (tgName 6) mYes (mIf (mT (mOp2 dLt (mOp2 dMod (mOp2 dDiv (mBI dInt [(mOp2 dAdd (mOp2 dAdd (mOp2 dMul (mVar 5) (mOp2 dAdd (mVar 6) (mC (.int 3)))) (mOp2 dMul (mVar 6) (mC (.int 37)))) (mOp2 dMul (mVar 4) (mC (.int 11))))]) (mC (.int 7))) (mC (.int 8))) (mOp2 dMod (mBI dInt [(mOp2 dIx (mVar 0) (mC (.int 0)))]) (mC (.int 4))))) (mC (.str "#")) (mC (.str "."))) (rst ds h w found (.fz (.int row)) (.fz (.int draw)) s6) = ok (.lst ((List.range w).map fun k => tx [g k])) := by
    refine lc_range (rng_nat rfl (by omega)) fun k hk => ?_
    have w1 : mVar 5 (((rst ds h w found (.fz (.int row)) (.fz (.int draw)) s6).set 6 .no).set 6 (.fz (.int (k : Int)))) = ok (.int draw) := rfl
    have w2 : mVar 6 (((rst ds h w found (.fz (.int row)) (.fz (.int draw)) s6).set 6 .no).set 6 (.fz (.int (k : Int)))) = ok (.int (k : Int)) := rfl
    have w3 : mVar 4 (((rst ds h w found (.fz (.int row)) (.fz (.int draw)) s6).set 6 .no).set 6 (.fz (.int (k : Int)))) = ok (.int (row : Int)) := rfl
    have w4 : mVar 0 (((rst ds h w found (.fz (.int row)) (.fz (.int draw)) s6).set 6 .no).set 6 (.fz (.int (k : Int)))) = ok (.lst (ds.map .int)) := rfl
    refine (if_ev (t_lt (i_mod (i_div (i_int (i_add (i_add (i_mulL w1 (i_add w2 rfl)) (i_mulR w2 rfl)) (i_mulR w3 rfl))) rfl) rfl) (i_mod (i_int (op2_ev w4 rfl ex0)) rfl)) (fun _ => rfl) (fun _ => rfl)).trans ?_
    show ok _ = ok (tx [rowSign draw row ds[0] k])
    unfold rowSign
    by_cases hc : (draw * ((k : Int) + (3 : Int)) + (k : Int) * (37 : Int) + (row : Int) * (11 : Int)) / (7 : Int) % (8 : Int) < (ds[0] : Int) % (4 : Int)
    · rw [if_pos hc, if_pos (decide_eq_true hc), lit_hash]
    · rw [if_neg hc, if_neg (by rw [decide_eq_false hc]; exact Bool.false_ne_true), lit_dot]
  have e3 : mM1 dJoin (mC (.str "")) (mLc (mRng rng1 [(mVar 2)]) [6] (tgName 6) mYes (mIf (mT (mOp2 dLt (mOp2 dMod (mOp2 dDiv (mBI dInt [(mOp2 dAdd (mOp2 dAdd (mOp2 dMul (mVar 5) (mOp2 dAdd (mVar 6) (mC (.int 3)))) (mOp2 dMul (mVar 6) (mC (.int 37)))) (mOp2 dMul (mVar 4) (mC (.int 11))))]) (mC (.int 7))) (mC (.int 8))) (mOp2 dMod (mBI dInt [(mOp2 dIx (mVar 0) (mC (.int 0)))]) (mC (.int 4))))) (mC (.str "#")) (mC (.str ".")))) (rst ds h w found (.fz (.int row)) (.fz (.int draw)) s6) = ok (tx ((List.range w).map g)) := by
    have : dJoin (tx []) (.lst ((List.range w).map fun k => tx [g k])) = some (tx ((List.range w).map g)) := dJoin_ones g _ (by rw [List.length_range]; omega)
    unfold mM1
    rw [e2]
    simp only [mC, Res.ok_bind, lit_nil, isS, if_true, this, ofO_some]
  refine ⟨(List.range w).map g, .fz (.int row), .fz (.int draw), s6, ?_, by simp, fun c hc => ?_⟩
  · simp only [sSeq, e1]
    unfold sApp
    show thenF (mM1 _ _ _ _) _ _ = _
    rw [e3]
    simp only [thenF_ok]
    rw [if_pos (by rw [List.length_map]; have := size1000; omega)]
    show Fl.nx _ = Fl.nx (rst ds h w (found ++ [(List.range w).map g]) _ _ _)
    unfold rst rowsL
    rw [List.map_append]
    rfl
  · obtain ⟨k, _, rfl⟩ := List.mem_map.mp hc
    show rowSign draw row ds[0] k = 35 ∨ rowSign draw row ds[0] k = 46
    unfold rowSign
    split
    · exact .inl rfl
    · exact .inr rfl
theorem rows_ok (ds : List Int) (h w : Nat) (hd : Drawn ds) (hl : 2 ≤ ds.length) (h1 : 1 ≤ h) (h2 : h ≤ 14) (w1 : 1 ≤ w) (w2 : w ≤ 14) :
    ∃ rows : List (List Nat), F__law_rows [.lst (ds.map .int), .int h, .int w] = ok (rowsD rows) ∧ OkRows rows h w ∧ ∃ l r, rows = (46 :: l) :: r := by
  have e1 : sSetO 3 (mLst []) (startS 7 [.lst (ds.map .int), .int h, .int w]) = .nx (rst ds h w [] .no .no .no) := rfl
  obtain ⟨ρ1, f1, found, s4, s5, s6, r1, r2, r3⟩ := forL_inv (xs := rangeD 0 h) (i := 0) (ρ := rst ds h w [] .no .no .no)
    (step := fun x ρ => thenF (tgName 4 x ρ).quiet ρ (sSeq (sSet 5 (mBI dInt [(mOp2 dIx (mVar 0) (mOp2 dAdd (mC (.int 1)) (mOp2 dMod (mVar 4) (mOp2 dSub (mBI dLen [(mVar 0)]) (mC (.int 1))))))]))
    (sApp 3 (mM1 dJoin (mC (.str "")) (mLc (mRng rng1 [(mVar 2)]) [6] (tgName 6) mYes (mIf (mT (mOp2 dLt (mOp2 dMod (mOp2 dDiv (mBI dInt [(mOp2 dAdd (mOp2 dAdd (mOp2 dMul (mVar 5) (mOp2 dAdd (mVar 6) (mC (.int 3)))) (mOp2 dMul (mVar 6) (mC (.int 37)))) (mOp2 dMul (mVar 4) (mC (.int 11))))]) (mC (.int 7))) (mC (.int 8))) (mOp2 dMod (mBI dInt [(mOp2 dIx (mVar 0) (mC (.int 0)))]) (mC (.int 4))))) (mC (.str "#")) (mC (.str "."))))))))
    (R := fun i ρ => ∃ found s4 s5 s6, ρ = rst ds h w found s4 s5 s6 ∧ found.length = i ∧ ∀ l ∈ found, l.length = w ∧ ∀ c ∈ l, c = 35 ∨ c = 46) (fun j x ρ hx ⟨found, s4, s5, s6, e, q1, q2⟩ => by
      have hj : j < h := by
        have := (List.getElem?_eq_some_iff.mp hx).1
        simpa [rangeD] using this
      rw [rangeD_map, List.getElem?_map] at hx
      obtain ⟨c, hc, rfl⟩ := Option.map_eq_some_iff.mp hx
      subst e
      obtain ⟨l, s4', s5', s6', z, z1, z2⟩ := rows_step ds h w found c s4 s5 s6 hd hl w2 (by omega)
      refine ⟨_, .inl z, found ++ [l], s4', s5', s6', rfl, by simp; omega, fun m hm => ?_⟩
      rcases List.mem_append.mp hm with hm | hm
      · exact q2 m hm
      · rw [List.mem_singleton.mp hm]; exact ⟨z1, z2⟩) ⟨[], .no, .no, .no, rfl, rfl, fun _ z => by simp at z⟩
  have hlen : found.length = h := by
    have : (rangeD 0 h).length = h := by simp [rangeD]
    omega
  obtain ⟨a, fr, rfl⟩ : ∃ a fr, found = a :: fr := by
    cases found with
    | nil => simp at hlen; omega
    | cons a fr => exact ⟨a, fr, rfl⟩
  obtain ⟨ha1, ha2⟩ := r3 a (by simp)
  refine ⟨(46 :: a.drop 1) :: fr, ?_, ⟨by simpa using hlen, fun l hl => ?_, fun l hl c hc => ?_, h1, h2, w1, w2⟩, _, _, rfl⟩
  · refine runF_rt ?_
    unfold b__law_rows
    have er : mRng rng1 [(mVar 1)] (rst ds h w [] .no .no .no) = ok (rangeD 0 h) := rng_nat rfl (by omega)
    simp only [sSeq, e1, sFor, er, thenF_ok, f1, r1]
    have x0 : dIx (.lst (rowsL (a :: fr))) (.int 0) = some (tx a) := by
      rw [dIx_lst (by decide)]
      rfl
    have x1 : dSl (tx a) (some 1) none = some (tx (a.drop 1)) := dSl_txFrom (by omega) (by decide)
    have x2 : dAdd (tx [46]) (tx (a.drop 1)) = some (tx (46 :: a.drop 1)) := dAdd_tx (by simp; omega)
    have x3 : dSl (.lst (rowsL (a :: fr))) (some 1) none = some (.lst (rowsL fr)) := by
      show some (D.lst (cutD (rowsL (a :: fr)) (some 1) none)) = _
      rw [cutD_from (by decide)]
      rfl
    have x4 : dAdd (.lst [tx (46 :: a.drop 1)]) (.lst (rowsL fr)) = some (.lst (rowsL ((46 :: a.drop 1) :: fr))) := by
      show (if [tx (46 :: a.drop 1)].length + (rowsL fr).length ≤ sizeLine then some (D.lst ([tx (46 :: a.drop 1)] ++ rowsL fr)) else none) = _
      rw [if_pos (by simp at hlen ⊢; have := size1000; omega)]
      rfl
    simp only [sRet, mBI, mArgs, mOp2, mLst, mSl, mVarB, rst, List.getElem?_cons_succ, List.getElem?_cons_zero, Res.ok_bind, mC, mPart, mNoPart, lit_dot, x0, asI_i, ofO_some, x1, x2, x3, x4, dTuple, thenF_ok]
  · rcases List.mem_cons.mp hl with e | e
    · rw [e]; simp; omega
    · exact (r3 l (by simp [e])).1
  · rcases List.mem_cons.mp hl with e | e
    · rw [e] at hc
      rcases List.mem_cons.mp hc with e2 | e2
      · exact .inr e2
      · exact ha2 c (List.mem_of_mem_drop e2)
    · exact (r3 l (by simp [e])).2 c hc
end PP

namespace PC
open PP
theorem eq_of_strict {α : Type} {lt : α → α → Prop} (irr : ∀ a, ¬ lt a a) (tr : ∀ a b c, lt a b → lt b c → lt a c) : ∀ (l m : List α), l.Pairwise lt → m.Pairwise lt → (∀ x, x ∈ l ↔ x ∈ m) → l = m
  | [], [], _, _, _ => rfl
  | [], b :: m, _, _, h => absurd ((h b).mpr (by simp)) (by simp)
  | a :: l, [], _, _, h => absurd ((h a).mp (by simp)) (by simp)
  | a :: l, b :: m, hl, hm, h => by
    have l1 := List.pairwise_cons.mp hl
    have m1 := List.pairwise_cons.mp hm
    have e : a = b := by
      rcases List.mem_cons.mp ((h a).mp (by simp)) with q | q
      · exact q
      · rcases List.mem_cons.mp ((h b).mpr (by simp)) with r | r
        · exact r.symm
        · exact absurd (tr _ _ _ (l1.1 b r) (m1.1 a q)) (irr a)
    subst e
    rw [eq_of_strict irr tr l m l1.2 m1.2 fun x => ?_]
    constructor
    · intro hx
      rcases List.mem_cons.mp ((h x).mp (by simp [hx])) with q | q
      · exact absurd (q ▸ l1.1 x hx) (irr _)
      · exact q
    · intro hx
      rcases List.mem_cons.mp ((h x).mpr (by simp [hx])) with q | q
      · exact absurd (q ▸ m1.1 x hx) (irr _)
      · exact q
abbrev P2 := Int × Int
def inB (h w : Nat) (p : P2) : Bool := (decide (0 ≤ p.1) && decide (p.1 ≤ (h : Int) - 1)) && (decide (0 ≤ p.2) && decide (p.2 ≤ (w : Int) - 1))
def chr (rows : List (List Nat)) (p : P2) : Nat := (rows.getD p.1.toNat []).getD p.2.toNat 0
def opn (rows : List (List Nat)) (h w : Nat) (p : P2) : Bool := inB h w p && decide (chr rows p = 46)
theorem inB_iff {h w : Nat} {p : P2} : inB h w p = true ↔ (0 ≤ p.1 ∧ p.1 < h) ∧ (0 ≤ p.2 ∧ p.2 < w) := by
  unfold inB
  simp only [Bool.and_eq_true, decide_eq_true_eq]
  omega
def steps4 : List P2 := [(-1, 0), (0, -1), (0, 1), (1, 0)]
def plus (c s : P2) : P2 := (c.1 + s.1, c.2 + s.2)
def nbs (rows : List (List Nat)) (h w : Nat) (c : P2) : List P2 := (steps4.map (plus c)).filter (opn rows h w)
def rowCells (rows : List (List Nat)) (w : Nat) (r : Nat) : List P2 := ((List.range w).filter fun k : Nat => decide (chr rows ((r : Int), (k : Int)) = 46)).map fun k : Nat => ((r : Int), (k : Int))
def cellsOf (rows : List (List Nat)) (h w : Nat) : List P2 := (List.range h).flatMap (rowCells rows w)
theorem rowCells_len (rows : List (List Nat)) (w r : Nat) : (rowCells rows w r).length ≤ w := by
  unfold rowCells
  rw [List.length_map]
  exact Nat.le_trans (List.length_filter_le _ _) (by simp)
/-! ### order -/
def ltP (a b : P2) : Prop := a.1 < b.1 ∨ (a.1 = b.1 ∧ a.2 < b.2)
def ltH (a b : P2 × Int) : Prop := ltP a.1 b.1 ∨ (a.1 = b.1 ∧ a.2 < b.2)
instance (a b : P2) : Decidable (ltP a b) := by unfold ltP; infer_instance
theorem ltP_irr (a : P2) : ¬ ltP a a := by unfold ltP; omega
theorem ltP_tr (a b c : P2) : ltP a b → ltP b c → ltP a c := by unfold ltP; omega
theorem ltH_irr (a : P2 × Int) : ¬ ltH a a := by unfold ltH ltP; omega
theorem ltH_tr (a b c : P2 × Int) : ltH a b → ltH b c → ltH a c := by
  rintro (h | ⟨h1, h2⟩) (k | ⟨k1, k2⟩)
  · exact .inl (ltP_tr _ _ _ h k)
  · exact .inl (k1 ▸ h)
  · exact .inl (h1 ▸ k)
  · exact .inr ⟨h1.trans k1, by omega⟩
theorem leP_tot (a b : P2) : (leP a b || leP b a) = true := by unfold leP; simp only [Bool.or_eq_true, decide_eq_true_eq]; omega
theorem leP_tr (a b c : P2) : leP a b = true → leP b c = true → leP a c = true := by unfold leP; simp only [decide_eq_true_eq]; omega
theorem leP_lt {a b : P2} (h : leP a b = true) (n : a ≠ b) : ltP a b := by
  unfold leP at h
  simp only [decide_eq_true_eq] at h
  unfold ltP
  by_cases e : a.1 = b.1
  · by_cases f : a.2 = b.2
    · exact absurd (Prod.ext e f) n
    · omega
  · omega
theorem lt_leP {a b : P2} (h : ltP a b) : leP a b = true := by
  unfold ltP at h
  unfold leP
  simp only [decide_eq_true_eq]
  omega
theorem leH_iff (a b : P2 × Int) : leH a b = true ↔ ltH a b ∨ a = b := by
  unfold leH
  by_cases e : a.1 = b.1
  · rw [if_pos e]
    simp only [decide_eq_true_eq]
    constructor
    · intro h
      by_cases f : a.2 = b.2
      · exact .inr (Prod.ext e f)
      · exact .inl (.inr ⟨e, by omega⟩)
    · rintro (h | h)
      · rcases h with h | h
        · rw [e] at h; exact absurd h (ltP_irr _)
        · omega
      · rw [h]; exact Int.le_refl _
  · rw [if_neg e]
    constructor
    · intro h; exact .inl (.inl (leP_lt h e))
    · rintro (h | h)
      · rcases h with h | h
        · exact lt_leP h
        · exact absurd h.1 e
      · exact absurd (by rw [h]) e
theorem ltH_con (a b : P2 × Int) : ltH a b ∨ a = b ∨ ltH b a := by
  by_cases e : a.1 = b.1
  · by_cases f : a.2 = b.2
    · exact .inr (.inl (Prod.ext e f))
    · by_cases g : a.2 < b.2
      · exact .inl (.inr ⟨e, g⟩)
      · exact .inr (.inr (.inr ⟨e.symm, by omega⟩))
  · have := leP_tot a.1 b.1
    rw [Bool.or_eq_true] at this
    rcases this with h | h
    · exact .inl (.inl (leP_lt h e))
    · exact .inr (.inr (.inl (leP_lt h (Ne.symm e))))
theorem leH_tot (a b : P2 × Int) : (leH a b || leH b a) = true := by
  rw [Bool.or_eq_true, leH_iff, leH_iff]
  rcases ltH_con a b with h | h | h
  · exact .inl (.inl h)
  · exact .inl (.inr h)
  · exact .inr (.inl h)
theorem leH_tr (a b c : P2 × Int) : leH a b = true → leH b c = true → leH a c = true := by
  rw [leH_iff, leH_iff, leH_iff]
  rintro (h | rfl) (k | rfl)
  · exact .inl (ltH_tr _ _ _ h k)
  · exact .inl h
  · exact .inl k
  · exact .inr rfl
abbrev Asc (l : List P2) : Prop := l.Pairwise ltP
abbrev AscH (l : List (P2 × Int)) : Prop := l.Pairwise ltH
abbrev srt (l : List P2) : List P2 := l.mergeSort leP
abbrev srtH (l : List (P2 × Int)) : List (P2 × Int) := l.mergeSort leH
theorem srt_mem {l : List P2} {x : P2} : x ∈ srt l ↔ x ∈ l := List.mem_mergeSort
theorem srtH_mem {l : List (P2 × Int)} {x : P2 × Int} : x ∈ srtH l ↔ x ∈ l := List.mem_mergeSort
theorem srt_asc {l : List P2} (h : l.Nodup) : Asc (srt l) := by
  have s : (srt l).Pairwise fun a b => leP a b = true := List.pairwise_mergeSort leP_tr leP_tot l
  have n : (srt l).Pairwise fun a b => a ≠ b := ((List.mergeSort_perm l leP).nodup_iff).mpr h
  exact (s.and n).imp fun ⟨a, b⟩ => leP_lt a b
theorem srtH_asc {l : List (P2 × Int)} (h : l.Nodup) : AscH (srtH l) := by
  have s : (srtH l).Pairwise fun a b => leH a b = true := List.pairwise_mergeSort leH_tr leH_tot l
  have n : (srtH l).Pairwise fun a b => a ≠ b := ((List.mergeSort_perm l leH).nodup_iff).mpr h
  exact (s.and n).imp fun ⟨a, b⟩ => ((leH_iff _ _).mp a).resolve_right b
theorem srt_len (l : List P2) : (srt l).length = l.length := List.length_mergeSort l
theorem asc_eq {l m : List P2} (a : Asc l) (b : Asc m) (h : ∀ x, x ∈ l ↔ x ∈ m) : l = m := eq_of_strict ltP_irr ltP_tr l m a b h
theorem ascH_eq {l m : List (P2 × Int)} (a : AscH l) (b : AscH m) (h : ∀ x, x ∈ l ↔ x ∈ m) : l = m := eq_of_strict ltH_irr ltH_tr l m a b h
theorem asc_nd {l : List P2} (h : Asc l) : l.Nodup := List.Pairwise.imp (fun {x y} (a : ltP x y) (e : x = y) => ltP_irr y (by rw [e] at a; exact a)) h
theorem ascH_nd {l : List (P2 × Int)} (h : AscH l) : l.Nodup := List.Pairwise.imp (fun {x y} (a : ltH x y) (e : x = y) => ltH_irr y (by rw [e] at a; exact a)) h
/-! ### cells -/
theorem mem_nbs {rows : List (List Nat)} {h w : Nat} {x y : P2} : y ∈ nbs rows h w x ↔ opn rows h w y = true ∧ ∃ s ∈ steps4, plus x s = y := by
  unfold nbs
  rw [List.mem_filter, List.mem_map]
  exact And.comm
theorem nbs_opn {rows : List (List Nat)} {h w : Nat} {x y : P2} (m : y ∈ nbs rows h w x) : opn rows h w y = true := (mem_nbs.mp m).1
theorem nbs_sym {rows : List (List Nat)} {h w : Nat} {x y : P2} (o : opn rows h w x = true) (m : y ∈ nbs rows h w x) : x ∈ nbs rows h w y := by
  obtain ⟨_, s, hs, rfl⟩ := mem_nbs.mp m
  refine mem_nbs.mpr ⟨o, (-s.1, -s.2), ?_, ?_⟩
  · unfold steps4 at hs ⊢
    simp only [List.mem_cons, List.not_mem_nil, or_false] at hs
    rcases hs with rfl | rfl | rfl | rfl <;> simp
  · unfold plus
    exact Prod.ext (by show x.1 + s.1 + -s.1 = x.1; omega) (by show x.2 + s.2 + -s.2 = x.2; omega)
theorem opn_in {rows : List (List Nat)} {h w : Nat} {p : P2} (o : opn rows h w p = true) : ((0 ≤ p.1 ∧ p.1 < h) ∧ (0 ≤ p.2 ∧ p.2 < w)) ∧ chr rows p = 46 := by
  unfold opn at o
  rw [Bool.and_eq_true, inB_iff, decide_eq_true_eq] at o
  exact o
theorem mem_cells {rows : List (List Nat)} {h w : Nat} {p : P2} : p ∈ cellsOf rows h w ↔ opn rows h w p = true := by
  unfold cellsOf rowCells opn
  rw [List.mem_flatMap, Bool.and_eq_true, inB_iff, decide_eq_true_eq]
  constructor
  · rintro ⟨r, hr, hp⟩
    obtain ⟨k, hk, rfl⟩ := List.mem_map.mp hp
    obtain ⟨hk, hc⟩ := List.mem_filter.mp hk
    have := List.mem_range.mp hr
    have := List.mem_range.mp hk
    exact ⟨⟨⟨by show (0 : Int) ≤ (r : Int); omega, by show (r : Int) < h; omega⟩, by show (0 : Int) ≤ (k : Int); omega, by show (k : Int) < w; omega⟩, of_decide_eq_true hc⟩
  · rintro ⟨⟨⟨a, b⟩, c, d⟩, e⟩
    have e1 : ((p.1.toNat : Int), (p.2.toNat : Int)) = p := Prod.ext (by show (p.1.toNat : Int) = p.1; omega) (by show (p.2.toNat : Int) = p.2; omega)
    refine ⟨p.1.toNat, List.mem_range.mpr (by omega), List.mem_map.mpr ⟨p.2.toNat, List.mem_filter.mpr ⟨List.mem_range.mpr (by omega), ?_⟩, e1⟩⟩
    rw [e1]
    exact decide_eq_true e
theorem nd_range (n : Nat) : (List.range n).Nodup := List.nodup_range
theorem asc_cells (rows : List (List Nat)) (h w : Nat) : Asc (cellsOf rows h w) := by
  unfold cellsOf
  have key : ∀ l : List Nat, l.Pairwise (· < ·) → Asc (l.flatMap (rowCells rows w)) := by
    intro l
    induction l with
    | nil => intro _; exact List.Pairwise.nil
    | cons r l ih =>
      intro hl
      obtain ⟨h1, h2⟩ := List.pairwise_cons.mp hl
      rw [List.flatMap_cons]
      refine List.pairwise_append.mpr ⟨?_, ih h2, fun a ha b hb => ?_⟩
      · unfold rowCells
        refine List.Pairwise.map _ (R := fun a b : Nat => a < b) (fun a b hab => ?_) (List.Pairwise.filter _ List.pairwise_lt_range)
        exact .inr ⟨rfl, by show (a : Int) < b; omega⟩
      · unfold rowCells at ha
        obtain ⟨k, _, rfl⟩ := List.mem_map.mp ha
        obtain ⟨r', hr', hb⟩ := List.mem_flatMap.mp hb
        unfold rowCells at hb
        obtain ⟨k', _, rfl⟩ := List.mem_map.mp hb
        have := h1 r' hr'
        exact .inl (by show (r : Int) < r'; omega)
  exact key _ List.pairwise_lt_range
theorem len_flat {α β : Type} (f : α → List β) (n : Nat) : ∀ l : List α, (∀ a ∈ l, (f a).length ≤ n) → (l.flatMap f).length ≤ l.length * n
  | [], _ => by simp
  | a :: l, h => by
    rw [List.flatMap_cons, List.length_append, List.length_cons, Nat.succ_mul]
    have := len_flat f n l fun x hx => h x (by simp [hx])
    have := h a (by simp)
    omega
theorem cells_len (rows : List (List Nat)) (h w : Nat) : (cellsOf rows h w).length ≤ h * w := by
  have := len_flat (rowCells rows w) w (List.range h) fun r _ => rowCells_len rows w r
  rw [List.length_range] at this
  exact this

end PC

/-! the evaluation lemmas of PPEv, PPSim for the wider operators, under the same names -/
namespace PC
open PySem L2 PP
open PP.Res (ok exc bad)
section
variable {ρ : Sls} {f g : Sls → Res D} {x y : Int}
theorem i_lenL {l : List D} (w1 : f ρ = ok (.lst l)) : mBI dLenX [f] ρ = ok (.int l.length) := bi1 w1 (dLenX_l l)
theorem i_lenT {l : List D} (w1 : f ρ = ok (.tup l)) : mBI dLenX [f] ρ = ok (.int l.length) := bi1 w1 (dLenX_t l)
theorem i_lenS {l : List Nat} (w1 : f ρ = ok (tx l)) (h : l.length ≤ 1000000 := by omega) : mBI dLenX [f] ρ = ok (.int l.length) := bi1 w1 (show dLen [tx l] = _ from dLen_tx h)
theorem dIx_tx {l : List Nat} {i : Int} (h : l.length ≤ 1000000) (h0 : 0 ≤ i) : dIxX (tx l) (.int i) = (l[i.toNat]?).map sg := PP.dIx_tx h h0
theorem dIx_tup {l : List D} {i : Int} (h0 : 0 ≤ i) : dIxX (.tup l) (.int i) = l[i.toNat]? := PP.dIx_tup h0
theorem dIx_lst {l : List D} {i : Int} (h0 : 0 ≤ i) : dIxX (.lst l) (.int i) = l[i.toNat]? := PP.dIx_lst h0
theorem t_lt (w1 : f ρ = ok (.int x)) (w2 : g ρ = ok (.int y)) : mT (mOp2 dLtX f g) ρ = ok (decide (x < y)) := t_ev (op2_ev w1 w2 (dLtX_i x y))
theorem t_le (w1 : f ρ = ok (.int x)) (w2 : g ρ = ok (.int y)) : mT (mOp2 dLeX f g) ρ = ok (decide (x ≤ y)) := t_ev (op2_ev w1 w2 (dLeX_i x y))
theorem t_gt (w1 : f ρ = ok (.int x)) (w2 : g ρ = ok (.int y)) : mT (mOp2 dGtX f g) ρ = ok (decide (y < x)) := t_ev (op2_ev w1 w2 (dGtX_i x y))
theorem t_ge (w1 : f ρ = ok (.int x)) (w2 : g ρ = ok (.int y)) : mT (mOp2 dGeX f g) ρ = ok (decide (y ≤ x)) := t_ev (op2_ev w1 w2 (dGeX_i x y))
end
end PC

namespace PC
open PySem L2 PP
open PP.Res (ok exc bad)
theorem whole_int (i a b : Int) : F_is_whole [.int i, .int a, .int b] = ok (.bl (decide (a ≤ i) && decide (i ≤ b))) := by
  refine runF_rt (ret_ev ?_)
  refine (andV_ev (a := true) (bi_ev (args_ev rfl (args_ev rfl args0)) rfl) fun _ => andV_ev (a := true) (notV_ev (a := false) (bi_ev (args_ev rfl (args_ev rfl args0)) rfl)) fun _ => chain_ev (a := decide (a ≤ i)) (b := decide (i ≤ b)) rfl rfl rfl fun _ => ⟨rfl, rfl⟩).trans ?_
  rfl
theorem whole_bl (i : Bool) (a b : Int) : F_is_whole [.bl i, .int a, .int b] = ok (.bl false) := by
  refine runF_rt (ret_ev ?_)
  refine (andV_ev (a := true) (bi_ev (args_ev rfl (args_ev rfl args0)) rfl) fun _ => andV_ev (a := false) (b := false) (notV_ev (a := true) (bi_ev (args_ev rfl (args_ev rfl args0)) rfl)) fun h => nomatch h).trans rfl
abbrev mz (rows : List (List Nat)) (h w : Nat) : D := .obj "Maze" [("rows", rowsD rows), ("height", .int h), ("width", .int w)]
theorem all_true {α : Type} {l : List α} {p : α → Bool} (h : ∀ a ∈ l, p a = true) : l.all p = true := List.all_eq_true.mpr h
theorem look_others (c : Nat) (h : c = 35 ∨ c = 46) : (tb_OTHERS.lookup (mkS [c])).isSome = true := by
  rcases h with rfl | rfl <;> decide +kernel
theorem chain_le3 {ρ : Sls} {f : Sls → Res D} {n : Nat} (e : f ρ = ok (.int n)) (h1 : 1 ≤ n) (h2 : n ≤ 14) : mT (mChain dLeX dLeX (mC (.int 1)) f (mC (.int 14))) ρ = ok true := by
  refine t_ev ((chain_ev (a := decide ((1 : Int) ≤ n)) (b := decide ((n : Int) ≤ 14)) rfl e rfl fun _ => ⟨rfl, rfl⟩).trans ?_)
  rw [decide_eq_true (by omega), decide_eq_true (by omega)]
  rfl
theorem items_tup (l : List D) : items (.tup l) = some l := rfl
theorem first_row {rows : List (List Nat)} {h w : Nat} (R : OkRows rows h w) : ∃ a r, rows = a :: r ∧ a.length = w := by
  cases rows with
  | nil => have := R.len; have := R.h1; simp at *; omega
  | cons a r => exact ⟨a, r, rfl, R.wid a (by simp)⟩
theorem maze_ok {rows : List (List Nat)} {h w : Nat} (R : OkRows rows h w) : F_Maze [rowsD rows] = ok (mz rows h w) := by
  obtain ⟨a0, rr, hrows, ha0⟩ := first_row R
  have key : ∀ a, I_Maze a [rowsD rows] = ok (mz rows h w) := fun a => by
    let ρ : Sls := [.me a (.obj "Maze" []), .fz (rowsD rows), .no, .no]
    have v1 : mVar 1 ρ = ok (rowsD rows) := rfl
    have hlen : (rowsL rows).length = h := by rw [List.length_map]; exact R.len
    have ln : mBI dLenX [mVar 1] ρ = ok (.int h) := by rw [← hlen]; exact i_lenT v1
    have h14 := R.h2
    have w14 := R.w2
    have ix : mOp2 dIxX (mVar 1) (mC (.int 0)) ρ = ok (tx a0) := op2_ev v1 rfl (by rw [dIx_tup (by decide), hrows]; rfl)
    have lw : mBI dLenX [mOp2 dIxX (mVar 1) (mC (.int 0))] ρ = ok (.int w) := by rw [← ha0]; exact i_lenS ix (by omega)
    have c1 : (mOr (mNot (mT (mBI dIsi [(mVar 1), (mC (.ty "tuple"))]))) (mOr (mNot (mT (mChain dLeX dLeX (mC (.int 1)) (mBI dLenX [(mVar 1)]) (mC (.int 14))))) (mNot (mT (mBI dAll [(mLc (mIt (mVar 1)) [2] (tgName 2) mYes (mBI dIsi [(mVar 2), (mC (.ty "str"))]))]))))) ρ = ok false := by
      refine (or_ev (a := false) (not_ev (a := true) (t_ev (bi_ev (args_ev v1 (args_ev rfl args0)) rfl))) fun _ => or_ev (a := false) (not_ev (a := true) (chain_le3 ln R.h1 R.h2)) fun _ => not_ev (a := true) (t_ev ?_)).trans rfl
      refine bi1 (lc_ev0 (as := rows) (emb := tx) (g := fun _ => D.bl true) (it_ev v1 rfl) fun l hl => ⟨_, rfl, bi_ev (args_ev rfl (args_ev rfl args0)) rfl⟩) ?_
      rw [dAll_map (fun _ => true), all_true fun _ _ => rfl]
    have c2 : (mOr (mNot (mT (mChain dLeX dLeX (mC (.int 1)) (mBI dLenX [(mOp2 dIxX (mVar 1) (mC (.int 0)))]) (mC (.int 14))))) (mNot (mT (mBI dAll [(mLc (mIt (mVar 1)) [2] (tgName 2) mYes (mOp2 dEq (mBI dLenX [(mVar 2)]) (mBI dLenX [(mOp2 dIxX (mVar 1) (mC (.int 0)))])))])))) ρ = ok false := by
      refine (or_ev (a := false) (not_ev (a := true) (chain_le3 lw R.w1 R.w2)) fun _ => not_ev (a := true) (t_ev ?_)).trans rfl
      refine bi1 (lc_ev0 (as := rows) (emb := tx) (g := fun _ => D.bl true) (it_ev v1 rfl) fun l hl => ⟨_, rfl, ?_⟩) ?_
      · have q := R.wid l hl
        refine op2_ev (i_lenS (l := l) rfl (by omega)) (i_lenS (l := a0) (op2_ev v1 rfl (by rw [dIx_tup (by decide), hrows]; rfl)) (by omega)) ?_
        rw [dEq_i, q, ha0, decide_eq_true rfl]
      · rw [dAll_map (fun _ => true), all_true fun _ _ => rfl]
    have c3 : (mNot (mT (mBI dAll [(mLc (mIt (mVar 1)) [2] (tgName 2) mYes (mOp2 dEq (mBI dLenX [(mLc (mIt (mVar 2)) [3] (tgName 3) (mT (mKNotIn tb_OTHERS (mVar 3))) (mVar 3))]) (mC (.int 0))))]))) ρ = ok false := by
      refine (not_ev (a := true) (t_ev ?_)).trans rfl
      refine bi1 (lc_ev0 (as := rows) (emb := tx) (g := fun _ => D.bl true) (it_ev v1 rfl) fun l hl => ⟨_, rfl, ?_⟩) ?_
      · have q := R.wid l hl
        refine op2_ev (i_lenL (lc_ev (as := l) (emb := sg) (p := fun _ => false) (g := sg) (it_ev rfl (items_tx (by omega))) fun c hc => ⟨_, rfl, t_ev ?_, fun h => nomatch h⟩)) rfl ?_
        · show ok (D.bl (!(tb_OTHERS.lookup (mkS [c])).isSome)) = _
          rw [look_others c (R.sgn l hl c hc)]
          rfl
        · have e : l.filter (fun _ => false) = [] := List.filter_eq_nil_iff.mpr fun _ _ => by simp
          rw [e]
          rfl
      · rw [dAll_map (fun _ => true), all_true fun _ _ => rfl]
    have f1 : sFldS 0 "Maze" "rows" (mVar 1) ρ = .nx [.me a (.obj "Maze" [("rows", rowsD rows)]), .fz (rowsD rows), .no, .no] := rfl
    have f2 : sFldS 0 "Maze" "height" (mBI dLenX [(mVar 1)]) [.me a (.obj "Maze" [("rows", rowsD rows)]), .fz (rowsD rows), .no, .no] = .nx [.me a (.obj "Maze" [("rows", rowsD rows), ("height", .int h)]), .fz (rowsD rows), .no, .no] := by
      have : mBI dLenX [mVar 1] [.me a (.obj "Maze" [("rows", rowsD rows)]), .fz (rowsD rows), .no, .no] = ok (.int h) := by rw [← hlen]; exact i_lenT rfl
      simp only [sFldS, List.getElem?_cons_zero, this, thenF_ok]
      rfl
    have f3 : sFldS 0 "Maze" "width" (mBI dLenX [(mOp2 dIxX (mVar 1) (mC (.int 0)))]) [.me a (.obj "Maze" [("rows", rowsD rows), ("height", .int h)]), .fz (rowsD rows), .no, .no] = .nx [.me a (mz rows h w), .fz (rowsD rows), .no, .no] := by
      have : mBI dLenX [mOp2 dIxX (mVar 1) (mC (.int 0))] [.me a (.obj "Maze" [("rows", rowsD rows), ("height", .int h)]), .fz (rowsD rows), .no, .no] = ok (.int w) := by
        rw [← ha0]
        exact i_lenS (op2_ev rfl rfl (by rw [dIx_tup (by decide), hrows]; rfl)) (by omega)
      simp only [sFldS, List.getElem?_cons_zero, this, thenF_ok]
      rfl
    have e : b_Maze ρ = .nx [.me a (mz rows h w), .fz (rowsD rows), .no, .no] := by
      unfold b_Maze
      exact seq_nx2 (if_nx c1) (seq_nx2 (if_nx c2) (seq_nx2 (if_nx c3) (seq_nx2 f1 (seq_nx2 f2 f3))))
    unfold I_Maze PP.runI
    rw [if_pos (by rfl)]
    have e' : b_Maze (.me a (.obj "Maze" []) :: startS (4 - 1) [rowsD rows]) = .nx [.me a (mz rows h w), .fz (rowsD rows), .no, .no] := e
    rw [e']
    show (if a = a then ok (mz rows h w) else bad) = _
    rw [if_pos rfl]
  unfold F_Maze
  rw [if_pos fun a => (key a).trans (key 0).symm]
  exact key 0
end PC

namespace PC
open PySem L2 PP
open PP.Res (ok exc bad)
theorem fld_rows {rows : List (List Nat)} {h w : Nat} {f : Sls → Res D} {ρ : Sls} (e : f ρ = ok (mz rows h w)) : mFld ["Maze"] "rows" f ρ = ok (rowsD rows) := by
  unfold mFld
  rw [e]
  rfl
theorem fld_height {rows : List (List Nat)} {h w : Nat} {f : Sls → Res D} {ρ : Sls} (e : f ρ = ok (mz rows h w)) : mFld ["Maze"] "height" f ρ = ok (.int h) := by
  unfold mFld
  rw [e]
  rfl
theorem fld_width {rows : List (List Nat)} {h w : Nat} {f : Sls → Res D} {ρ : Sls} (e : f ρ = ok (mz rows h w)) : mFld ["Maze"] "width" f ρ = ok (.int w) := by
  unfold mFld
  rw [e]
  rfl
theorem is_cell_pt (rows : List (List Nat)) (h w : Nat) (p : P2) : F_is_cell [mz rows h w, pt p] = ok (.bl (inB h w p)) := by
  refine runF_rt ?_
  let ρ : Sls := [.fz (mz rows h w), .fz (pt p)]
  have c : (mOr (mNot (mT (mBI dIsi [(mVar 1), (mC (.ty "tuple"))]))) (mT (mOp2 dNe (mBI dLenX [(mVar 1)]) (mC (.int 2))))) ρ = ok false :=
    (or_ev (a := false) (not_ev (a := true) (t_ev (bi_ev (args_ev rfl (args_ev rfl args0)) rfl))) fun _ => t_ev (op2_ev (bi1 rfl rfl) rfl rfl)).trans rfl
  refine seq_nx2 (if_nx c) (ret_ev ((andV_ev (call_ev (args_ev (op2_ev rfl rfl rfl) (args_ev rfl (args_ev (i_sub (fld_height (rows := rows) (h := h) (w := w) rfl) rfl) args0))) (whole_int p.1 0 _)) fun _ => call_ev (args_ev (op2_ev rfl rfl rfl) (args_ev rfl (args_ev (i_sub (fld_width (rows := rows) (h := h) (w := w) rfl) rfl) args0))) (whole_int p.2 0 _)).trans rfl))
theorem is_open_pt {rows : List (List Nat)} {h w : Nat} (R : OkRows rows h w) (p : P2) : F_is_open [mz rows h w, pt p] = ok (.bl (opn rows h w p)) := by
  refine runF_rt (ret_ev ((andV_ev (b := decide (chr rows p = 46)) (call_ev (args_ev rfl (args_ev rfl args0)) (is_cell_pt rows h w p)) fun hb => ?_).trans rfl))
  obtain ⟨⟨h1, h2⟩, h3, h4⟩ := inB_iff.mp hb
  have hr : p.1.toNat < rows.length := by rw [R.len]; omega
  have hw14 := R.w2
  have hl := R.wid rows[p.1.toNat] (List.getElem_mem hr)
  have hc : p.2.toNat < rows[p.1.toNat].length := by rw [hl]; omega
  have e1 : dIxX (rowsD rows) (.int p.1) = some (tx rows[p.1.toNat]) := by
    rw [dIx_tup h1, List.getElem?_map, List.getElem?_eq_getElem hr]
    rfl
  have e2 : dIxX (tx rows[p.1.toNat]) (.int p.2) = some (tx [chr rows p]) := by
    rw [dIx_tx (by omega) h3, List.getElem?_eq_getElem hc]
    unfold chr
    rw [List.getD_eq_getElem?_getD, List.getD_eq_getElem?_getD, List.getElem?_eq_getElem hr, Option.getD_some, List.getElem?_eq_getElem hc]
    rfl
  refine op2_ev (op2_ev (op2_ev (fld_rows (rows := rows) (h := h) (w := w) rfl) (op2_ev rfl rfl rfl) e1) (op2_ev rfl rfl rfl) e2) rfl ?_
  rw [lit_dot, dEq_tx]
  simp
theorem is_open_no {m v : D} (h : F_is_cell [m, v] = ok (.bl false)) : F_is_open [m, v] = ok (.bl false) :=
  runF_rt (ret_ev ((andV_ev (b := false) (call_ev (args_ev rfl (args_ev rfl args0)) h) fun z => nomatch z).trans rfl))
end PC

namespace PC
open PySem L2 PP
open PP.Res (ok exc bad)
theorem beside_ok {rows : List (List Nat)} {h w : Nat} (R : OkRows rows h w) (c : P2) : F_beside [mz rows h w, pt c] = ok (.tup ((nbs rows h w c).map pt)) := by
  refine runF_rt ?_
  let ρ : Sls := startS 6 [mz rows h w, pt c]
  have e1 : (mLc (mIt (mC (.tup [.tup [.int (-1), .int 0], .tup [.int 0, .int (-1)], .tup [.int 0, .int 1], .tup [.int 1, .int 0]]))) [3, 4] (tgTup 2 (tgsCons (tgName 3) (tgsCons (tgName 4) tgsNil))) mYes (mTup [(mOp2 dAdd (mOp2 dIxX (mVar 1) (mC (.int 0))) (mVar 3)), (mOp2 dAdd (mOp2 dIxX (mVar 1) (mC (.int 1))) (mVar 4))])) ρ = ok (.lst (steps4.map fun s => pt (plus c s))) :=
    lc_ev0 (as := steps4) (emb := pt) (it_ev c_ev rfl) fun s hs => ⟨_, rfl, tup_ev (args_ev (op2_ev (op2_ev rfl rfl rfl) rfl rfl) (args_ev (op2_ev (op2_ev rfl rfl rfl) rfl rfl) args0))⟩
  refine seq_nx2 (set_ev e1) (ret_ev (bi1 (lc_ev (as := steps4.map (plus c)) (emb := pt) (p := opn rows h w) (g := pt) (it_ev (var_ev (d := .lst (steps4.map fun s => pt (plus c s))) rfl) ?_) fun p hp => ⟨_, rfl, t_ev (call_ev (args_ev rfl (args_ev rfl args0)) (is_open_pt R p)), fun _ => rfl⟩) rfl))
  rw [List.map_map]
  rfl
end PC

namespace PC
open PySem L2 PP
open PP.Res (ok exc bad)
/-- a walk over as, what it gathers, and a bound that grows -/
theorem forL_fold {α β : Type} {step : D → Sls → Fl} {emb : α → D} {st : Nat → β → Sls → Prop} {g : β → α → β} : ∀ {as : List α} {i : Nat} {b : β} {ρ : Sls},
    (∀ a ∈ as, ∀ j b ρ, j < i + as.length → st j b ρ → ∃ ρ', step (emb a) ρ = .nx ρ' ∧ st (j + 1) (g b a) ρ') → st i b ρ → ∃ ρ', forL step (as.map emb) ρ = .nx ρ' ∧ st (i + as.length) (as.foldl g b) ρ'
  | [], i, b, ρ, _, h => ⟨ρ, rfl, h⟩
  | a :: as, i, b, ρ, hs, h => by
    obtain ⟨ρ1, e1, h1⟩ := hs a (by simp) i b ρ (by simp only [List.length_cons]; omega) h
    obtain ⟨ρ2, e2, h2⟩ := forL_fold (as := as) (i := i + 1) (b := g b a) (ρ := ρ1) (fun x hx j b ρ hj => hs x (by simp [hx]) j b ρ (by simp only [List.length_cons]; omega)) h1
    refine ⟨ρ2, ?_, ?_⟩
    · show (match step (emb a) ρ with
        | .nx ρ' => forL step (as.map emb) ρ'
        | .ct ρ' => forL step (as.map emb) ρ'
        | .bk ρ' => .nx ρ'
        | .rt d => .rt d
        | .exc c ρ' => .exc c ρ'
        | .bad => .bad) = _
      rw [e1]
      exact e2
    · rw [show i + (a :: as).length = i + 1 + as.length by simp only [List.length_cons]; omega]
      exact h2
theorem foldl_filter {α β : Type} (f : α → β) (p : β → Bool) : ∀ (as : List α) (acc : List β), as.foldl (fun b a => if p (f a) = true then b ++ [f a] else b) acc = acc ++ (as.map f).filter p
  | [], acc => by simp
  | a :: as, acc => by
    simp only [List.foldl_cons, List.map_cons, List.filter_cons]
    rw [foldl_filter f p as]
    cases p (f a) <;> simp
section
variable {rows : List (List Nat)} {h w : Nat}
theorem row0 (R : OkRows rows h w) {f : Sls → Res D} {ρ : Sls} (e : f ρ = ok (rowsD rows)) : mBI dLenX [mOp2 dIxX f (mC (.int 0))] ρ = ok (.int w) := by
  obtain ⟨a, r, hr, ha⟩ := first_row R
  have w14 := R.w2
  rw [← ha]
  exact i_lenS (op2_ev e rfl (by rw [dIx_tup (by decide), hr]; rfl)) (by omega)
theorem lenR (R : OkRows rows h w) {f : Sls → Res D} {ρ : Sls} (e : f ρ = ok (rowsD rows)) : mBI dLenX [f] ρ = ok (.int h) := by
  have hlen : (rowsL rows).length = h := by rw [List.length_map]; exact R.len
  rw [← hlen]
  exact i_lenT e
theorem sign_at (R : OkRows rows h w) {p : P2} (h1 : 0 ≤ p.1) (h2 : p.1 < h) (h3 : 0 ≤ p.2) (h4 : p.2 < w) {f g k : Sls → Res D} {ρ : Sls} (e1 : f ρ = ok (rowsD rows)) (e2 : g ρ = ok (.int p.1)) (e3 : k ρ = ok (.int p.2)) :
    mOp2 dIxX (mOp2 dIxX f g) k ρ = ok (tx [chr rows p]) := by
  have hr : p.1.toNat < rows.length := by rw [R.len]; omega
  have hw14 := R.w2
  have hl := R.wid rows[p.1.toNat] (List.getElem_mem hr)
  have hc : p.2.toNat < rows[p.1.toNat].length := by rw [hl]; omega
  have x1 : dIxX (rowsD rows) (.int p.1) = some (tx rows[p.1.toNat]) := by
    rw [dIx_tup h1, List.getElem?_map, List.getElem?_eq_getElem hr]
    rfl
  have x2 : dIxX (tx rows[p.1.toNat]) (.int p.2) = some (tx [chr rows p]) := by
    rw [dIx_tx (by omega) h3, List.getElem?_eq_getElem hc]
    unfold chr
    rw [List.getD_eq_getElem?_getD, List.getD_eq_getElem?_getD, List.getElem?_eq_getElem hr, Option.getD_some, List.getElem?_eq_getElem hc]
    rfl
  exact op2_ev (op2_ev e1 e2 x1) e3 x2
theorem sign_is (R : OkRows rows h w) {p : P2} (c : Nat) {z : Str} (hz : z = mkS [c]) (h1 : 0 ≤ p.1) (h2 : p.1 < h) (h3 : 0 ≤ p.2) (h4 : p.2 < w) {f g k : Sls → Res D} {ρ : Sls} (e1 : f ρ = ok (rowsD rows)) (e2 : g ρ = ok (.int p.1)) (e3 : k ρ = ok (.int p.2)) :
    mOp2 dEq (mOp2 dIxX (mOp2 dIxX f g) k) (mC (.str z)) ρ = ok (.bl (decide (chr rows p = c))) := by
  refine op2_ev (sign_at R h1 h2 h3 h4 e1 e2 e3) rfl ?_
  rw [hz, dEq_tx]
  simp
theorem rangeD0 (n : Nat) : rangeD 0 n = (List.range n).map fun k : Nat => D.int (k : Int) := by
  rw [rangeD_map]
  exact List.map_congr_left fun k _ => by rw [Int.zero_add]
end
end PC

namespace PC
open PySem L2 PP
open PP.Res (ok exc bad)
section
variable {rows : List (List Nat)} {h w : Nat}
theorem ext_ev {i : Nat} {ρ : Sls} {f : Sls → Res D} {ds es : List D} (h : ρ[i]? = some (.ow (.lst ds))) (hf : f ρ = ok (.lst es)) (hl : ds.length + es.length ≤ 1000000) : sExt i f ρ = .nx (ρ.set i (.ow (.lst (ds ++ es)))) := by
  unfold sExt
  rw [h]
  show thenF (f ρ) ρ _ = _
  rw [hf, thenF_ok]
  show (if ds.length + es.length ≤ sizeLine then _ else _) = _
  rw [if_pos (by have := size1000; omega)]
theorem rng_nat {f : Sls → Res D} {ρ : Sls} {n : Nat} (e : f ρ = ok (.int n)) (hn : n ≤ 1000) : mRng rng1 [f] ρ = ok (rangeD 0 n) := by
  unfold mRng
  rw [args_ev e args0, Res.ok_bind]
  show ofO (if (n : Int) ≤ 1000000 ∧ -1000000 ≤ (n : Int) then some (rangeD 0 (n : Int).toNat) else none) = _
  rw [if_pos (by omega)]
  rfl
theorem foldl_flat {α β : Type} (f : α → List β) : ∀ (as : List α) (acc : List β), as.foldl (fun b a => b ++ f a) acc = acc ++ as.flatMap f
  | [], acc => by simp
  | a :: as, acc => by
    rw [List.foldl_cons, foldl_flat f as, List.flatMap_cons, List.append_assoc]
end
end PC

namespace PC
open PySem L2 PP
open PP.Res (ok exc bad)
section
variable {ρ : Sls} {f g : Sls → Res D} {x y : Int}
theorem i_mulLX (w1 : f ρ = ok (.int x)) (w2 : g ρ = ok (.int y)) (h1 : -1000000000 < x := by omega) (h2 : x < 1000000000 := by omega) : mOp2 dMulX f g ρ = ok (.int (x * y)) := op2_ev w1 w2 (dMul_sl h1 h2)
theorem i_mulRX (w1 : f ρ = ok (.int x)) (w2 : g ρ = ok (.int y)) (h1 : -1000000000 < y := by omega) (h2 : y < 1000000000 := by omega) : mOp2 dMulX f g ρ = ok (.int (x * y)) := op2_ev w1 w2 (dMul_sr h1 h2)
end
theorem rows_step (ds : List Int) (h w : Nat) (found : List (List Nat)) (row : Nat) (s4 s5 s6 : Sl) (hd : Drawn ds) (hl : 2 ≤ ds.length) (hw : w ≤ 14) (hf : found.length ≤ 100) :
    ∃ l s4' s5' s6', thenF (tgName 4 (.int (0 + (row : Int))) (rst ds h w found s4 s5 s6)).quiet (rst ds h w found s4 s5 s6) (sSeq (sSet 5 (mBI dInt [(mOp2 dIxX (mVar 0) (mOp2 dAdd (mC (.int 1)) (mOp2 dMod (mVar 4) (mOp2 dSub (mBI dLenX [(mVar 0)]) (mC (.int 1))))))]))
    (sApp 3 (mM1 dJoin (mC (.str "")) (mLc (mRng rng1 [(mVar 2)]) [6] (tgName 6) mYes (mIf (mT (mOp2 dLtX (mOp2 dMod (mOp2 dDiv (mBI dInt [(mOp2 dAdd (mOp2 dAdd (mOp2 dMulX (mVar 5) (mOp2 dAdd (mVar 6) (mC (.int 3)))) (mOp2 dMulX (mVar 6) (mC (.int 37)))) (mOp2 dMulX (mVar 4) (mC (.int 11))))]) (mC (.int 7))) (mC (.int 8))) (mOp2 dMod (mBI dInt [(mOp2 dIxX (mVar 0) (mC (.int 0)))]) (mC (.int 4))))) (mC (.str "#")) (mC (.str "."))))))) = .nx (rst ds h w (found ++ [l]) s4' s5' s6') ∧ l.length = w ∧ ∀ c ∈ l, c = 35 ∨ c = 46 := by
  have e0 : tgName 4 (.int (0 + (row : Int))) (rst ds h w found s4 s5 s6) = ok (rst ds h w found (.fz (.int row)) s5 s6) := by
    rw [Int.zero_add]
    rfl
  rw [e0]
  simp only [Res.quiet_ok, thenF_ok]
  have hm : (0 : Int) < (ds.length : Int) - 1 := by omega
  have hix : (1 + (row : Int) % ((ds.length : Int) - 1)).toNat < ds.length := by
    have a := Int.emod_nonneg (row : Int) (show ((ds.length : Int) - 1) ≠ 0 by omega)
    have b := Int.emod_lt_of_pos (row : Int) hm
    omega
  have h0 : (0 : Int) ≤ 1 + (row : Int) % ((ds.length : Int) - 1) := by
    have a := Int.emod_nonneg (row : Int) (show ((ds.length : Int) - 1) ≠ 0 by omega)
    omega
  generalize hq : ds[(1 + (row : Int) % ((ds.length : Int) - 1)).toNat] = draw
  have hdraw := hd draw (by rw [← hq]; exact List.getElem_mem _)
  have ex : dIxX (.lst (ds.map .int)) (.int (1 + (row : Int) % ((ds.length : Int) - 1))) = some (.int draw) := by
    rw [dIx_lst h0, List.getElem?_map, List.getElem?_eq_getElem hix, hq]
    rfl
  have ex0 : dIxX (.lst (ds.map .int)) (.int 0) = some (.int ds[0]) := by
    rw [dIx_lst (by decide), List.getElem?_map]
    show Option.map D.int ds[0]? = _
    rw [List.getElem?_eq_getElem (by omega)]
    rfl
  have e1 : sSet 5 (mBI dInt [(mOp2 dIxX (mVar 0) (mOp2 dAdd (mC (.int 1)) (mOp2 dMod (mVar 4) (mOp2 dSub (mBI dLenX [(mVar 0)]) (mC (.int 1))))))]) (rst ds h w found (.fz (.int row)) s5 s6) = .nx (rst ds h w found (.fz (.int row)) (.fz (.int draw)) s6) := by
    simp [sSet, mBI, mArgs, mVar, rst, mOp2, mC, dMod_i hm, ex]
  let g : Nat → Nat := rowSign draw row ds[0]
  have e2 : mLc (mRng rng1 [(mVar 2)]) [6] (tgName 6) mYes (mIf (mT (mOp2 dLtX (mOp2 dMod (mOp2 dDiv (mBI dInt [(mOp2 dAdd (mOp2 dAdd (mOp2 dMulX (mVar 5) (mOp2 dAdd (mVar 6) (mC (.int 3)))) (mOp2 dMulX (mVar 6) (mC (.int 37)))) (mOp2 dMulX (mVar 4) (mC (.int 11))))]) (mC (.int 7))) (mC (.int 8))) (mOp2 dMod (mBI dInt [(mOp2 dIxX (mVar 0) (mC (.int 0)))]) (mC (.int 4))))) (mC (.str "#")) (mC (.str "."))) (rst ds h w found (.fz (.int row)) (.fz (.int draw)) s6) = ok (.lst ((List.range w).map fun k => tx [g k])) := by
    refine lc_range (PP.rng_nat rfl (by omega)) fun k hk => ?_
    have w1 : mVar 5 (((rst ds h w found (.fz (.int row)) (.fz (.int draw)) s6).set 6 .no).set 6 (.fz (.int (k : Int)))) = ok (.int draw) := rfl
    have w2 : mVar 6 (((rst ds h w found (.fz (.int row)) (.fz (.int draw)) s6).set 6 .no).set 6 (.fz (.int (k : Int)))) = ok (.int (k : Int)) := rfl
    have w3 : mVar 4 (((rst ds h w found (.fz (.int row)) (.fz (.int draw)) s6).set 6 .no).set 6 (.fz (.int (k : Int)))) = ok (.int (row : Int)) := rfl
    have w4 : mVar 0 (((rst ds h w found (.fz (.int row)) (.fz (.int draw)) s6).set 6 .no).set 6 (.fz (.int (k : Int)))) = ok (.lst (ds.map .int)) := rfl
    refine (if_ev (t_lt (i_mod (i_div (i_int (i_add (i_add (i_mulLX w1 (i_add w2 rfl)) (i_mulRX w2 rfl)) (i_mulRX w3 rfl))) rfl) rfl) (i_mod (i_int (op2_ev w4 rfl ex0)) rfl)) (fun _ => rfl) (fun _ => rfl)).trans ?_
    show ok _ = ok (tx [rowSign draw row ds[0] k])
    unfold rowSign
    by_cases hc : (draw * ((k : Int) + (3 : Int)) + (k : Int) * (37 : Int) + (row : Int) * (11 : Int)) / (7 : Int) % (8 : Int) < (ds[0] : Int) % (4 : Int)
    · rw [if_pos hc, if_pos (decide_eq_true hc), lit_hash]
    · rw [if_neg hc, if_neg (by rw [decide_eq_false hc]; exact Bool.false_ne_true), lit_dot]
  have e3 : mM1 dJoin (mC (.str "")) (mLc (mRng rng1 [(mVar 2)]) [6] (tgName 6) mYes (mIf (mT (mOp2 dLtX (mOp2 dMod (mOp2 dDiv (mBI dInt [(mOp2 dAdd (mOp2 dAdd (mOp2 dMulX (mVar 5) (mOp2 dAdd (mVar 6) (mC (.int 3)))) (mOp2 dMulX (mVar 6) (mC (.int 37)))) (mOp2 dMulX (mVar 4) (mC (.int 11))))]) (mC (.int 7))) (mC (.int 8))) (mOp2 dMod (mBI dInt [(mOp2 dIxX (mVar 0) (mC (.int 0)))]) (mC (.int 4))))) (mC (.str "#")) (mC (.str ".")))) (rst ds h w found (.fz (.int row)) (.fz (.int draw)) s6) = ok (tx ((List.range w).map g)) := by
    have : dJoin (tx []) (.lst ((List.range w).map fun k => tx [g k])) = some (tx ((List.range w).map g)) := dJoin_ones g _ (by rw [List.length_range]; omega)
    unfold mM1
    rw [e2]
    simp only [mC, Res.ok_bind, lit_nil, isS, if_true, this, ofO_some]
  refine ⟨(List.range w).map g, .fz (.int row), .fz (.int draw), s6, ?_, by simp, fun c hc => ?_⟩
  · simp only [sSeq, e1]
    unfold sApp
    show thenF (mM1 _ _ _ _) _ _ = _
    rw [e3]
    simp only [thenF_ok]
    rw [if_pos (by rw [List.length_map]; have := size1000; omega)]
    show Fl.nx _ = Fl.nx (rst ds h w (found ++ [(List.range w).map g]) _ _ _)
    unfold rst rowsL
    rw [List.map_append]
    rfl
  · obtain ⟨k, _, rfl⟩ := List.mem_map.mp hc
    show rowSign draw row ds[0] k = 35 ∨ rowSign draw row ds[0] k = 46
    unfold rowSign
    split
    · exact .inl rfl
    · exact .inr rfl
theorem rows_ok (ds : List Int) (h w : Nat) (hd : Drawn ds) (hl : 2 ≤ ds.length) (h1 : 1 ≤ h) (h2 : h ≤ 14) (w1 : 1 ≤ w) (w2 : w ≤ 14) :
    ∃ rows : List (List Nat), F__law_rows [.lst (ds.map .int), .int h, .int w] = ok (rowsD rows) ∧ OkRows rows h w ∧ ∃ l r, rows = (46 :: l) :: r := by
  have e1 : sSetO 3 (mLst []) (startS 7 [.lst (ds.map .int), .int h, .int w]) = .nx (rst ds h w [] .no .no .no) := rfl
  obtain ⟨ρ1, f1, found, s4, s5, s6, r1, r2, r3⟩ := forL_inv (xs := rangeD 0 h) (i := 0) (ρ := rst ds h w [] .no .no .no)
    (step := fun x ρ => thenF (tgName 4 x ρ).quiet ρ (sSeq (sSet 5 (mBI dInt [(mOp2 dIxX (mVar 0) (mOp2 dAdd (mC (.int 1)) (mOp2 dMod (mVar 4) (mOp2 dSub (mBI dLenX [(mVar 0)]) (mC (.int 1))))))]))
    (sApp 3 (mM1 dJoin (mC (.str "")) (mLc (mRng rng1 [(mVar 2)]) [6] (tgName 6) mYes (mIf (mT (mOp2 dLtX (mOp2 dMod (mOp2 dDiv (mBI dInt [(mOp2 dAdd (mOp2 dAdd (mOp2 dMulX (mVar 5) (mOp2 dAdd (mVar 6) (mC (.int 3)))) (mOp2 dMulX (mVar 6) (mC (.int 37)))) (mOp2 dMulX (mVar 4) (mC (.int 11))))]) (mC (.int 7))) (mC (.int 8))) (mOp2 dMod (mBI dInt [(mOp2 dIxX (mVar 0) (mC (.int 0)))]) (mC (.int 4))))) (mC (.str "#")) (mC (.str "."))))))))
    (R := fun i ρ => ∃ found s4 s5 s6, ρ = rst ds h w found s4 s5 s6 ∧ found.length = i ∧ ∀ l ∈ found, l.length = w ∧ ∀ c ∈ l, c = 35 ∨ c = 46) (fun j x ρ hx ⟨found, s4, s5, s6, e, q1, q2⟩ => by
      have hj : j < h := by
        have := (List.getElem?_eq_some_iff.mp hx).1
        simpa [rangeD] using this
      rw [rangeD_map, List.getElem?_map] at hx
      obtain ⟨c, hc, rfl⟩ := Option.map_eq_some_iff.mp hx
      subst e
      obtain ⟨l, s4', s5', s6', z, z1, z2⟩ := rows_step ds h w found c s4 s5 s6 hd hl w2 (by omega)
      refine ⟨_, .inl z, found ++ [l], s4', s5', s6', rfl, by simp; omega, fun m hm => ?_⟩
      rcases List.mem_append.mp hm with hm | hm
      · exact q2 m hm
      · rw [List.mem_singleton.mp hm]; exact ⟨z1, z2⟩) ⟨[], .no, .no, .no, rfl, rfl, fun _ z => by simp at z⟩
  have hlen : found.length = h := by
    have : (rangeD 0 h).length = h := by simp [rangeD]
    omega
  obtain ⟨a, fr, rfl⟩ : ∃ a fr, found = a :: fr := by
    cases found with
    | nil => simp at hlen; omega
    | cons a fr => exact ⟨a, fr, rfl⟩
  obtain ⟨ha1, ha2⟩ := r3 a (by simp)
  refine ⟨(46 :: a.drop 1) :: fr, ?_, ⟨by simpa using hlen, fun l hl => ?_, fun l hl c hc => ?_, h1, h2, w1, w2⟩, _, _, rfl⟩
  · refine runF_rt ?_
    unfold b__law_rows
    have er : mRng rng1 [(mVar 1)] (rst ds h w [] .no .no .no) = ok (rangeD 0 h) := PP.rng_nat rfl (by omega)
    simp only [sSeq, e1, sFor, er, thenF_ok, f1, r1]
    have x0 : dIxX (.lst (rowsL (a :: fr))) (.int 0) = some (tx a) := by
      rw [dIx_lst (by decide)]
      rfl
    have x1 : dSl (tx a) (some 1) none = some (tx (a.drop 1)) := dSl_txFrom (by omega) (by decide)
    have x2 : dAdd (tx [46]) (tx (a.drop 1)) = some (tx (46 :: a.drop 1)) := dAdd_tx (by simp; omega)
    have x3 : dSl (.lst (rowsL (a :: fr))) (some 1) none = some (.lst (rowsL fr)) := by
      show some (D.lst (cutD (rowsL (a :: fr)) (some 1) none)) = _
      rw [cutD_from (by decide)]
      rfl
    have x4 : dAdd (.lst [tx (46 :: a.drop 1)]) (.lst (rowsL fr)) = some (.lst (rowsL ((46 :: a.drop 1) :: fr))) := by
      show (if [tx (46 :: a.drop 1)].length + (rowsL fr).length ≤ sizeLine then some (D.lst ([tx (46 :: a.drop 1)] ++ rowsL fr)) else none) = _
      rw [if_pos (by simp at hlen ⊢; have := size1000; omega)]
      rfl
    simp only [sRet, mBI, mArgs, mOp2, mLst, mSl, mVarB, rst, List.getElem?_cons_succ, List.getElem?_cons_zero, Res.ok_bind, mC, mPart, mNoPart, lit_dot, x0, asI_i, ofO_some, x1, x2, x3, x4, dTuple, thenF_ok]
  · rcases List.mem_cons.mp hl with e | e
    · rw [e]; simp; omega
    · exact (r3 l (by simp [e])).1
  · rcases List.mem_cons.mp hl with e | e
    · rw [e] at hc
      rcases List.mem_cons.mp hc with e2 | e2
      · exact .inr e2
      · exact ha2 c (List.mem_of_mem_drop e2)
    · exact (r3 l (by simp [e])).2 c hc
end PC

namespace PC
open PySem L2 PP
open PP.Res (ok exc bad)
/-! ### values of any kind -/
def Val (d : D) : Prop := ∃ p, toPD d = some p
theorem Val.of {n : Nat} {d : D} (h : Dat n d) : Val d := h.imp fun _ q => q.1
theorem vals_of : ∀ {ds : List D} {ps : List PyData}, toPDs ds = some ps → ∀ x ∈ ds, Val x
  | [], _, _, x, hx => by simp at hx
  | d :: ds, _, e, x, hx => by
    simp only [toPDs, Option.bind_eq_some_iff, Option.map_eq_some_iff] at e
    obtain ⟨p, e1, ps, e2, _⟩ := e
    rcases List.mem_cons.mp hx with z | z
    · rw [z]; exact ⟨p, e1⟩
    · exact vals_of e2 x z
theorem Val.tup {ds : List D} (h : Val (.tup ds)) : ∀ x ∈ ds, Val x := by
  obtain ⟨p, e⟩ := h
  simp only [toPD, Option.map_eq_some_iff] at e
  obtain ⟨ps, e1, _⟩ := e
  exact vals_of e1
def isTup : D → Bool
  | .tup _ => true
  | _ => false
def isInt : D → Bool
  | .int _ => true
  | _ => false
def isBl : D → Bool
  | .bl _ => true
  | _ => false
theorem isi_tup {x : D} (v : Val x) : dIsi [x, .ty "tuple"] = some (.bl (isTup x)) := by
  obtain ⟨p, e⟩ := v
  cases x with
  | ty _ => simp [toPD] at e
  | obj _ _ => simp [toPD] at e
  | dct _ => simp [toPD] at e
  | _ => rfl
theorem isi_int {x : D} (v : Val x) : dIsi [x, .ty "int"] = some (.bl (isInt x || isBl x)) := by
  obtain ⟨p, e⟩ := v
  cases x with
  | ty _ => simp [toPD] at e
  | obj _ _ => simp [toPD] at e
  | dct _ => simp [toPD] at e
  | _ => rfl
theorem isi_bl {x : D} (v : Val x) : dIsi [x, .ty "bool"] = some (.bl (isBl x)) := by
  obtain ⟨p, e⟩ := v
  cases x with
  | ty _ => simp [toPD] at e
  | obj _ _ => simp [toPD] at e
  | dct _ => simp [toPD] at e
  | _ => rfl
def whB : D → Int → Int → Bool
  | .int i, a, b => decide (a ≤ i) && decide (i ≤ b)
  | _, _, _ => false
theorem whole_any {x : D} (v : Val x) (a b : Int) : F_is_whole [x, .int a, .int b] = ok (.bl (whB x a b)) := by
  by_cases hi : isInt x = true
  · cases x <;> first | (cases hi; done) | exact whole_int _ a b
  · by_cases hb : isBl x = true
    · cases x <;> first | (cases hb; done) | exact whole_bl _ a b
    · have e : whB x a b = false := by cases x <;> first | rfl | exact absurd rfl hi
      rw [e]
      refine runF_rt (ret_ev ((andV_ev (a := false) (b := false) (bi_ev (args_ev rfl (args_ev rfl args0)) ?_) fun h => nomatch h).trans rfl))
      rw [isi_int v]
      simp [hi, hb]
section
variable {rows : List (List Nat)} {h w : Nat}
def cellB (h w : Nat) : D → Bool
  | .tup [a, b] => whB a 0 ((h : Int) - 1) && whB b 0 ((w : Int) - 1)
  | _ => false
def opnB (rows : List (List Nat)) (h w : Nat) : D → Bool
  | .tup [.int a, .int b] => opn rows h w (a, b)
  | _ => false
theorem is_cell_any {x : D} (v : Val x) : F_is_cell [mz rows h w, x] = ok (.bl (cellB h w x)) := by
  by_cases ht : isTup x = true
  · cases x <;> try (cases ht; done)
    rename_i ds
    by_cases hl : ds.length = 2
    · obtain ⟨a, b, rfl⟩ : ∃ a b, ds = [a, b] := by
        match ds, hl with
        | [a, b], _ => exact ⟨a, b, rfl⟩
      have va := v.tup a (by simp)
      have vb := v.tup b (by simp)
      refine runF_rt (seq_nx2 (if_nx ?_) (ret_ev ((andV_ev (call_ev (args_ev (op2_ev rfl rfl rfl) (args_ev rfl (args_ev (i_sub (fld_height (rows := rows) (h := h) (w := w) rfl) rfl) args0))) (whole_any va 0 _)) fun _ => call_ev (args_ev (op2_ev rfl rfl rfl) (args_ev rfl (args_ev (i_sub (fld_width (rows := rows) (h := h) (w := w) rfl) rfl) args0))) (whole_any vb 0 _)).trans rfl)))
      exact (or_ev (a := false) (not_ev (a := true) (t_ev (bi_ev (args_ev rfl (args_ev rfl args0)) (isi_tup v)))) fun _ => t_ev (op2_ev (bi1 rfl rfl) rfl rfl)).trans rfl
    · have e : cellB h w (.tup ds) = false := by
        unfold cellB
        split
        · rename_i q
          injection q with q
          rw [q] at hl
          exact absurd rfl hl
        · rfl
      rw [e]
      refine runF_rt (seq_rt ((if_t ?_).trans (ret_ev rfl)))
      refine (or_ev (a := false) (b := true) (not_ev (a := true) (t_ev (bi_ev (args_ev rfl (args_ev rfl args0)) (isi_tup v)))) fun _ => (t_neI (i_lenT rfl) rfl).trans ?_).trans rfl
      rw [decide_eq_false (by omega)]
      rfl
  · have e : cellB h w x = false := by
      cases x <;> first | rfl | exact absurd rfl ht
    rw [e]
    refine runF_rt (seq_rt ((if_t ?_).trans (ret_ev rfl)))
    refine (or_ev (a := true) (b := true) ((not_ev (a := false) (t_ev (bi_ev (args_ev rfl (args_ev rfl args0)) ?_))).trans rfl) fun q => nomatch q).trans rfl
    rw [isi_tup v, show isTup x = false by simpa using ht]
theorem opnB_some {x : D} (e : opnB rows h w x = true) : ∃ p, x = pt p ∧ opn rows h w p = true := by
  unfold opnB at e
  split at e
  · exact ⟨_, rfl, e⟩
  · cases e
theorem opnB_pt (p : P2) : opnB rows h w (pt p) = opn rows h w p := rfl
theorem whB_int {x : D} {a b : Int} (e : whB x a b = true) : ∃ i, x = .int i := by
  unfold whB at e
  split at e
  · exact ⟨_, rfl⟩
  · cases e
theorem cell_of_opn {x : D} (e : opnB rows h w x = true) : cellB h w x = true := by
  obtain ⟨p, rfl, o⟩ := opnB_some e
  unfold opn at o
  rw [Bool.and_eq_true] at o
  exact o.1
theorem is_open_any (R : OkRows rows h w) {x : D} (v : Val x) : F_is_open [mz rows h w, x] = ok (.bl (opnB rows h w x)) := by
  cases hc : cellB h w x with
  | false =>
    have e : opnB rows h w x = false := by
      cases q : opnB rows h w x with
      | false => rfl
      | true => rw [cell_of_opn q] at hc; cases hc
    rw [e]
    exact is_open_no (by rw [is_cell_any v, hc])
  | true =>
    unfold cellB at hc
    split at hc
    · rw [Bool.and_eq_true] at hc
      obtain ⟨i, rfl⟩ := whB_int hc.1
      obtain ⟨j, rfl⟩ := whB_int hc.2
      exact is_open_pt R (i, j)
    · cases hc
theorem all_opn : ∀ {ds : List D}, ds.all (opnB rows h w) = true → ∃ ps : List P2, ds = ps.map pt ∧ ∀ p ∈ ps, opn rows h w p = true
  | [], _ => ⟨[], rfl, fun _ h => by simp at h⟩
  | d :: ds, e => by
    rw [List.all_cons, Bool.and_eq_true] at e
    obtain ⟨p, e1, o⟩ := opnB_some e.1
    obtain ⟨ps, e2, os⟩ := all_opn e.2
    refine ⟨p :: ps, by rw [e1, e2]; rfl, fun q hq => ?_⟩
    rcases List.mem_cons.mp hq with z | z
    · rw [z]; exact o
    · exact os q z
theorem opn_all {ps : List P2} (o : ∀ p ∈ ps, opn rows h w p = true) : (ps.map pt).all (opnB rows h w) = true := by
  rw [List.all_eq_true]
  intro x hx
  obtain ⟨p, hp, rfl⟩ := List.mem_map.mp hx
  exact o p hp
/-! all([f(x) for x in xs]) -/
theorem lc_id {it : Sls → Res (List D)} {vs : List Nat} {tg : TgF} {te : Sls → Res D} {ρ : Sls} {ds : List D} {g : D → D} (hi : it ρ = ok ds) (hh : ∀ a ∈ ds, ∃ ρ', tg a (wipeS ρ vs) = ok ρ' ∧ te ρ' = ok (g a)) : mLc it vs tg mYes te ρ = ok (.lst (ds.map g)) :=
  lc_ev0 (as := ds) (emb := id) (hi.trans (by rw [List.map_id])) hh
theorem all_lc {it : Sls → Res (List D)} {vs : List Nat} {tg : TgF} {te : Sls → Res D} {ρ : Sls} {ds : List D} {q : D → Bool} (hi : it ρ = ok ds) (hh : ∀ a ∈ ds, ∃ ρ', tg a (wipeS ρ vs) = ok ρ' ∧ te ρ' = ok (.bl (q a))) : mBI dAll [mLc it vs tg mYes te] ρ = ok (.bl (ds.all q)) :=
  bi1 (lc_id (g := fun a => .bl (q a)) hi hh) (dAll_map q ds)
theorem all_lcA {α : Type} {emb : α → D} {as : List α} {it : Sls → Res (List D)} {vs : List Nat} {tg : TgF} {te : Sls → Res D} {ρ : Sls} {q : α → Bool} (hi : it ρ = ok (as.map emb)) (hh : ∀ a ∈ as, ∃ ρ', tg (emb a) (wipeS ρ vs) = ok ρ' ∧ te ρ' = ok (.bl (q a))) : mBI dAll [mLc it vs tg mYes te] ρ = ok (.bl (as.all q)) :=
  bi1 (lc_ev0 (g := fun a => .bl (q a)) hi hh) (dAll_map q as)
theorem any_lcA {α : Type} {emb : α → D} {as : List α} {it : Sls → Res (List D)} {vs : List Nat} {tg : TgF} {te : Sls → Res D} {ρ : Sls} {q : α → Bool} (hi : it ρ = ok (as.map emb)) (hh : ∀ a ∈ as, ∃ ρ', tg (emb a) (wipeS ρ vs) = ok ρ' ∧ te ρ' = ok (.bl (q a))) : mBI dAny [mLc it vs tg mYes te] ρ = ok (.bl (as.any q)) :=
  bi1 (lc_ev0 (g := fun a => .bl (q a)) hi hh) (dAny_map q as)
theorem law_is_cell_any {x : D} (v : Val x) : F__law_is_cell [.tup ((cellsOf rows h w).map pt), x] = ok (.bl (opnB rows h w x)) := by
  by_cases ht : isTup x = true
  · cases x <;> try (cases ht; done)
    rename_i ds
    have c1 : ∀ ρ : Sls, mVar 1 ρ = ok (.tup ds) → mNot (mT (mBI dIsi [(mVar 1), (mC (.ty "tuple"))])) ρ = ok false := fun ρ e => not_ev (a := true) (t_ev (bi_ev (args_ev e (args_ev rfl args0)) (isi_tup v)))
    by_cases hl : ds.length = 2
    · obtain ⟨a, b, rfl⟩ : ∃ a b, ds = [a, b] := by
        match ds, hl with
        | [a, b], _ => exact ⟨a, b, rfl⟩
      have c3 : (mBI dAll [(mLc (mIt (mVar 1)) [2] (tgName 2) mYes (mAndV (mBI dIsi [(mVar 2), (mC (.ty "int"))]) (mNotV (mBI dIsi [(mVar 2), (mC (.ty "bool"))]))))]) [.fz (.tup ((cellsOf rows h w).map pt)), .fz (.tup [a, b]), .no] = ok (.bl (isInt a && isInt b)) := by
        refine Eq.trans (b := ok (.bl ([a, b].all isInt))) (all_lc (ds := [a, b]) (q := isInt) (it_ev (u := .tup [a, b]) rfl rfl) fun y hy => ⟨[.fz (.tup ((cellsOf rows h w).map pt)), .fz (.tup [a, b]), .fz y], rfl, ?_⟩) (by simp)
        have vy := v.tup y hy
        refine (andV_ev (bi_ev (args_ev rfl (args_ev rfl args0)) (isi_int vy)) fun _ => notV_ev (bi_ev (args_ev rfl (args_ev rfl args0)) (isi_bl vy))).trans ?_
        cases y <;> rfl
      by_cases hab : (isInt a && isInt b) = true
      · rw [Bool.and_eq_true] at hab
        cases a <;> try (cases hab.1; done)
        cases b <;> try (cases hab.2; done)
        rename_i i j
        refine runF_rt (seq_nx2 (if_nx ?_) (ret_ev (op2_ev rfl rfl ?_)))
        · exact (or_ev (a := false) (c1 _ rfl) fun _ => or_ev (a := false) ((t_neI (i_lenT rfl) rfl).trans rfl) fun _ => not_ev (a := true) (t_ev c3)).trans rfl
        · rw [inX_tup (in_pt (i, j) _)]
          congr 2
          show _ = opn rows h w (i, j)
          rw [Bool.eq_iff_iff, decide_eq_true_iff, mem_cells]
      · have e : opnB rows h w (.tup [a, b]) = false := by
          cases a <;> cases b <;> first | rfl | exact absurd rfl hab
        rw [e]
        refine runF_rt (seq_rt ((if_t ?_).trans (ret_ev rfl)))
        exact (or_ev (a := false) (c1 _ rfl) fun _ => or_ev (a := false) ((t_neI (i_lenT rfl) rfl).trans rfl) fun _ => not_ev (a := false) (t_ev (c3.trans (by rw [show (isInt a && isInt b) = false by simpa using hab])))).trans rfl
    · have e : opnB rows h w (.tup ds) = false := by
        cases q : opnB rows h w (.tup ds) with
        | false => rfl
        | true =>
          obtain ⟨p, e1, _⟩ := opnB_some q
          injection e1 with e1
          rw [e1] at hl
          exact absurd rfl hl
      rw [e]
      refine runF_rt (seq_rt ((if_t ?_).trans (ret_ev rfl)))
      exact (or_ev (a := false) (b := true) (c1 _ rfl) fun _ => (or_ev (a := true) (b := true) ((t_neI (i_lenT rfl) rfl).trans (by rw [decide_eq_false (by omega)]; rfl)) fun q => nomatch q).trans rfl).trans rfl
  · have e : opnB rows h w x = false := by
      cases x <;> first | rfl | exact absurd rfl ht
    rw [e]
    refine runF_rt (seq_rt ((if_t ?_).trans (ret_ev rfl)))
    refine (or_ev (a := true) (b := true) ((not_ev (a := false) (t_ev (bi_ev (args_ev rfl (args_ev rfl args0)) ?_))).trans rfl) fun q => nomatch q).trans rfl
    rw [isi_tup v, show isTup x = false by simpa using ht]
end
end PC

namespace PC
open PySem L2 PP
open PP.Res (ok exc bad)
section
variable {rows : List (List Nat)} {h w : Nat} 
theorem dAdd_tup {a b : List D} (h : a.length + b.length ≤ 1000000) : dAdd (.tup a) (.tup b) = some (.tup (a ++ b)) := by
  show (if a.length + b.length ≤ sizeLine then some (D.tup (a ++ b)) else none) = _
  rw [if_pos (by have := size1000; omega)]
theorem dAdd_lst {a b : List D} (h : a.length + b.length ≤ 1000000) : dAdd (.lst a) (.lst b) = some (.lst (a ++ b)) := by
  show (if a.length + b.length ≤ sizeLine then some (D.lst (a ++ b)) else none) = _
  rw [if_pos (by have := size1000; omega)]
theorem near_ok (R : OkRows rows h w) (c : P2) : F__law_near [rowsD rows, pt c] = ok (.lst ((nbs rows h w c).map pt)) := by
  refine runF_rt ?_
  have i0 : sSetO 2 (mLst []) (startS 5 [rowsD rows, pt c]) = .nx [.fz (rowsD rows), .fz (pt c), .ow (.lst []), .no, .no] := rfl
  have it : mIt (mLst [(mTup [(mOp1 dNeg (mC (.int 1))), (mC (.int 0))]), (mTup [(mC (.int 0)), (mOp1 dNeg (mC (.int 1)))]), (mTup [(mC (.int 0)), (mC (.int 1))]), (mTup [(mC (.int 1)), (mC (.int 0))])]) [.fz (rowsD rows), .fz (pt c), .ow (.lst []), .no, .no] = ok (steps4.map pt) := rfl
  obtain ⟨ρ', e, s3, s4, e2, hl⟩ := forL_fold (as := steps4) (emb := pt) (i := 0) (b := ([] : List P2)) (g := fun b s => if opn rows h w (plus c s) = true then b ++ [plus c s] else b)
    (st := fun i b ρ => ∃ s3 s4, ρ = [.fz (rowsD rows), .fz (pt c), .ow (.lst (b.map pt)), s3, s4] ∧ b.length ≤ i)
    (step := fun x ρ => thenF (tgName 3 x ρ).quiet ρ (sSeq (sSet 4 (mTup [(mOp2 dAdd (mOp2 dIxX (mVar 1) (mC (.int 0))) (mOp2 dIxX (mVar 3) (mC (.int 0)))), (mOp2 dAdd (mOp2 dIxX (mVar 1) (mC (.int 1))) (mOp2 dIxX (mVar 3) (mC (.int 1))))]))
    (sIf (mAnd (mT (mChain dLeX dLtX (mC (.int 0)) (mOp2 dIxX (mVar 4) (mC (.int 0))) (mBI dLenX [(mVar 0)]))) (mAnd (mT (mChain dLeX dLtX (mC (.int 0)) (mOp2 dIxX (mVar 4) (mC (.int 1))) (mBI dLenX [(mOp2 dIxX (mVar 0) (mC (.int 0)))]))) (mT (mOp2 dEq (mOp2 dIxX (mOp2 dIxX (mVar 0) (mOp2 dIxX (mVar 4) (mC (.int 0)))) (mOp2 dIxX (mVar 4) (mC (.int 1)))) (mC (.str ".")))))) (sApp 2 (mVar 4)) sNx)))
    (ρ := [.fz (rowsD rows), .fz (pt c), .ow (.lst []), .no, .no]) (fun s hs j b ρ hj ⟨s3, s4, e, hb⟩ => by
      subst e
      have hj' : j < 4 := by simpa [steps4] using hj
      let ρ : Sls := [.fz (rowsD rows), .fz (pt c), .ow (.lst (b.map pt)), .fz (pt s), .fz (pt (plus c s))]
      have p1 : sSet 4 (mTup [(mOp2 dAdd (mOp2 dIxX (mVar 1) (mC (.int 0))) (mOp2 dIxX (mVar 3) (mC (.int 0)))), (mOp2 dAdd (mOp2 dIxX (mVar 1) (mC (.int 1))) (mOp2 dIxX (mVar 3) (mC (.int 1))))]) [.fz (rowsD rows), .fz (pt c), .ow (.lst (b.map pt)), .fz (pt s), s4] = .nx ρ := set_ev (tup_ev (args_ev (op2_ev (op2_ev rfl rfl rfl) (op2_ev rfl rfl rfl) rfl) (args_ev (op2_ev (op2_ev rfl rfl rfl) (op2_ev rfl rfl rfl) rfl) args0)))
      have x0 : mOp2 dIxX (mVar 4) (mC (.int 0)) ρ = ok (.int (plus c s).1) := op2_ev rfl rfl rfl
      have x1 : mOp2 dIxX (mVar 4) (mC (.int 1)) ρ = ok (.int (plus c s).2) := op2_ev rfl rfl rfl
      have q : (mAnd (mT (mChain dLeX dLtX (mC (.int 0)) (mOp2 dIxX (mVar 4) (mC (.int 0))) (mBI dLenX [(mVar 0)]))) (mAnd (mT (mChain dLeX dLtX (mC (.int 0)) (mOp2 dIxX (mVar 4) (mC (.int 1))) (mBI dLenX [(mOp2 dIxX (mVar 0) (mC (.int 0)))]))) (mT (mOp2 dEq (mOp2 dIxX (mOp2 dIxX (mVar 0) (mOp2 dIxX (mVar 4) (mC (.int 0)))) (mOp2 dIxX (mVar 4) (mC (.int 1)))) (mC (.str ".")))))) ρ = ok (opn rows h w (plus c s)) := by
        refine (and_ev (t_ev (chain_ev (a := decide (0 ≤ (plus c s).1)) (b := decide ((plus c s).1 < (h : Int))) rfl x0 rfl fun _ => ⟨lenR R rfl, rfl⟩)) fun ha => and_ev (t_ev (chain_ev (a := decide (0 ≤ (plus c s).2)) (b := decide ((plus c s).2 < (w : Int))) rfl x1 rfl fun _ => ⟨row0 R rfl, rfl⟩)) fun hb => t_ev (sign_is R (p := plus c s) 46 lit_dot ?_ ?_ ?_ ?_ rfl x0 x1)).trans ?_
        · simp at ha; exact ha.1
        · simp at ha; exact ha.2
        · simp at hb; exact hb.1
        · simp at hb; exact hb.2
        · congr 1
          unfold opn
          rw [Bool.eq_iff_iff]
          simp only [Bool.and_eq_true, inB_iff, decide_eq_true_eq]
          constructor
          · rintro ⟨⟨a, b⟩, ⟨c, d⟩, e⟩; exact ⟨⟨⟨a, b⟩, c, d⟩, e⟩
          · rintro ⟨⟨⟨a, b⟩, c, d⟩, e⟩; exact ⟨⟨a, b⟩, ⟨c, d⟩, e⟩
      by_cases ho : opn rows h w (plus c s) = true
      · rw [if_pos ho]
        refine ⟨ρ.set 2 (.ow (.lst ((b ++ [plus c s]).map pt))), ?_, _, _, rfl, by simp; omega⟩
        refine (seq_nx p1).trans ((if_t (by rw [q, ho])).trans ?_)
        rw [List.map_append]
        exact app_ev rfl rfl (by rw [List.length_map]; omega)
      · rw [if_neg ho]
        refine ⟨ρ, ?_, _, _, rfl, by omega⟩
        exact (seq_nx p1).trans (if_nx (by rw [q]; simpa using ho))) ⟨_, _, rfl, by simp⟩
  refine seq_nx2 i0 (seq_nx2 ((for_ev it).trans e) ?_)
  rw [e2, foldl_filter, List.nil_append]
  rfl
theorem cells_ok (R : OkRows rows h w) : F__law_cells [rowsD rows] = ok (.tup ((cellsOf rows h w).map pt)) := by
  refine runF_rt ?_
  have i0 : sSet 1 (mLst []) (startS 4 [rowsD rows]) = .nx [.fz (rowsD rows), .fz (.lst []), .no, .no] := rfl
  have h14 := R.h2
  have w14 := R.w2
  have it : mRng rng1 [(mBI dLenX [(mVar 0)])] [.fz (rowsD rows), .fz (.lst []), .no, .no] = ok ((List.range h).map fun k : Nat => D.int (k : Int)) := by
    rw [← rangeD0]; exact rng_nat (lenR R rfl) (by omega)
  obtain ⟨ρ', e, s2, s3, e2, hl⟩ := forL_fold (as := List.range h) (emb := fun k : Nat => D.int (k : Int)) (i := 0) (b := ([] : List P2)) (g := fun b r => b ++ rowCells rows w r)
    (st := fun i b ρ => ∃ s2 s3, ρ = [.fz (rowsD rows), .fz (.lst (b.map pt)), s2, s3] ∧ b.length ≤ i * 14)
    (step := fun x ρ => thenF (tgName 2 x ρ).quiet ρ (sSet 1 (mOp2 dAdd (mVar 1) (mLc (mRng rng1 [(mBI dLenX [(mOp2 dIxX (mVar 0) (mC (.int 0)))])]) [3] (tgName 3) (mT (mOp2 dEq (mOp2 dIxX (mOp2 dIxX (mVar 0) (mVar 2)) (mVar 3)) (mC (.str ".")))) (mTup [(mVar 2), (mVar 3)])))))
    (ρ := [.fz (rowsD rows), .fz (.lst []), .no, .no]) (fun r hr j b ρ hj ⟨s2, s3, e, hb⟩ => by
      subst e
      have hr' := List.mem_range.mp hr
      have hj' : j < 14 := by rw [List.length_range] at hj; omega
      let ρ : Sls := [.fz (rowsD rows), .fz (.lst (b.map pt)), .fz (.int r), s3]
      have lc : mLc (mRng rng1 [(mBI dLenX [(mOp2 dIxX (mVar 0) (mC (.int 0)))])]) [3] (tgName 3) (mT (mOp2 dEq (mOp2 dIxX (mOp2 dIxX (mVar 0) (mVar 2)) (mVar 3)) (mC (.str ".")))) (mTup [(mVar 2), (mVar 3)]) ρ = ok (.lst ((rowCells rows w r).map pt)) := by
        unfold rowCells
        rw [List.map_map]
        refine lc_ev (as := List.range w) (emb := fun k : Nat => D.int (k : Int)) (p := fun k : Nat => decide (chr rows ((r : Int), (k : Int)) = 46)) (g := pt ∘ fun k : Nat => ((r : Int), (k : Int))) ((rng_nat (row0 R rfl) (by omega)).trans (by rw [rangeD0])) fun k hk => ⟨(ρ.set 3 .no).set 3 (.fz (.int (k : Int))), rfl, ?_, fun _ => rfl⟩
        have hk' := List.mem_range.mp hk
        exact t_ev (sign_is R (p := ((r : Int), (k : Int))) 46 lit_dot (Int.natCast_nonneg r) (by show (r : Int) < h; omega) (Int.natCast_nonneg k) (by show (k : Int) < w; omega) rfl rfl rfl)
      have l1 := rowCells_len rows w r
      refine ⟨ρ.set 1 (.fz (.lst ((b ++ rowCells rows w r).map pt))), ?_, _, _, rfl, by rw [List.length_append]; omega⟩
      rw [List.map_append]
      exact set_ev (ρ := ρ) (i := 1) (op2_ev rfl lc (dAdd_lst (by rw [List.length_map, List.length_map]; omega)))) ⟨_, _, rfl, by simp⟩
  refine seq_nx2 i0 (seq_nx2 ((for_ev it).trans e) ?_)
  rw [e2, foldl_flat, List.nil_append]
  rfl
theorem nbs_len (p : P2) : (nbs rows h w p).length ≤ 4 := by
  unfold nbs
  have := List.length_filter_le (opn rows h w) (steps4.map (plus p))
  have e : (steps4.map (plus p)).length = 4 := rfl
  omega
end
end PC

namespace PC
open PySem L2 PP
open PP.Res (ok exc bad)
/-! ### the values that are looked at -/
inductive Okv : D → Prop
  | non : Okv .non
  | bl (b : Bool) : Okv (.bl b)
  | int (i : Int) : Okv (.int i)
  | tup {ds : List D} : (∀ x ∈ ds, Okv x) → ds.length ≤ 1000 → Okv (.tup ds)
  | lst {ds : List D} : (∀ x ∈ ds, Okv x) → ds.length ≤ 1000 → Okv (.lst ds)
theorem toPDs_all : ∀ {ds : List D}, (∀ x ∈ ds, Val x) → ∃ ps, toPDs ds = some ps
  | [], _ => ⟨[], by simp [toPDs]⟩
  | d :: ds, hv => by
    obtain ⟨p, e⟩ := hv d (by simp)
    obtain ⟨ps, e2⟩ := toPDs_all (ds := ds) fun x hx => hv x (by simp [hx])
    exact ⟨p :: ps, by simp [toPDs, e, e2]⟩
theorem Okv.val {d : D} (o : Okv d) : Val d := by
  induction o with
  | non => exact ⟨.none, by simp [toPD]⟩
  | bl b => exact ⟨.bool b, by simp [toPD]⟩
  | int i => exact ⟨.int i, by simp [toPD]⟩
  | tup _ _ ih =>
    obtain ⟨ps, e⟩ := toPDs_all ih
    exact ⟨.tuple ps, by simp [toPD, e]⟩
  | lst _ _ ih =>
    obtain ⟨ps, e⟩ := toPDs_all ih
    exact ⟨.list ps, by simp [toPD, e]⟩
theorem Okv.el {ds : List D} (o : Okv (.tup ds)) : ∀ x ∈ ds, Okv x := by
  cases o with
  | tup a _ => exact a
theorem Okv.len {ds : List D} (o : Okv (.tup ds)) : ds.length ≤ 1000 := by
  cases o with
  | tup _ l => exact l
/-! ### a walk up to the first that is wrong -/
theorem forL_rt {step : D → Sls → Fl} {x : D} {xs : List D} {ρ : Sls} {d : D} (e : step x ρ = .rt d) : forL step (x :: xs) ρ = .rt d := by
  conv => lhs; unfold forL; rw [e]
theorem forL_nx {step : D → Sls → Fl} {x : D} {xs : List D} {ρ ρ' : Sls} (e : step x ρ = .nx ρ') : forL step (x :: xs) ρ = forL step xs ρ' := by
  conv => lhs; unfold forL; rw [e]
theorem forL_first {α : Type} {step : D → Sls → Fl} {emb : α → D} {bad : α → Bool} {r : α → D} {I : Sls → Prop} : ∀ {as : List α} {ρ : Sls}, I ρ → (∀ a ∈ as, ∀ ρ, I ρ → (bad a = true → step (emb a) ρ = .rt (r a)) ∧ (bad a = false → ∃ ρ', step (emb a) ρ = .nx ρ' ∧ I ρ')) →
    (∃ a, as.find? bad = some a ∧ forL step (as.map emb) ρ = .rt (r a)) ∨ (as.find? bad = none ∧ ∃ ρ', forL step (as.map emb) ρ = .nx ρ' ∧ I ρ')
  | [], ρ, i0, _ => .inr ⟨rfl, ρ, rfl, i0⟩
  | a :: as, ρ, i0, hs => by
    obtain ⟨h1, h2⟩ := hs a (by simp) ρ i0
    rw [List.find?_cons]
    cases q : bad a with
    | true => exact .inl ⟨a, rfl, forL_rt (h1 q)⟩
    | false =>
      obtain ⟨ρ', e, i1⟩ := h2 q
      rw [List.map_cons, forL_nx e]
      exact forL_first (as := as) i1 fun x hx => hs x (by simp [hx])
theorem seq_end {s t : Sls → Fl} {ρ : Sls} {d : D} (e : s ρ = .rt d) : sSeq s t ρ = .rt d := seq_rt e
section
variable {α : Type} {emb : α → D}
theorem ix_tup {l : List α} {k : Nat} (d : α) (hk : k < l.length) : dIxX (.tup (l.map emb)) (.int (k : Int)) = some (emb (l.getD k d)) := by
  rw [dIx_tup (Int.natCast_nonneg k), Int.toNat_natCast, List.getElem?_map, List.getElem?_eq_getElem hk, List.getD_eq_getElem?_getD, List.getElem?_eq_getElem hk]
  rfl
theorem ix_lst {l : List α} {k : Nat} (d : α) (hk : k < l.length) : dIxX (.lst (l.map emb)) (.int (k : Int)) = some (emb (l.getD k d)) := by
  rw [dIx_lst (Int.natCast_nonneg k), Int.toNat_natCast, List.getElem?_map, List.getElem?_eq_getElem hk, List.getD_eq_getElem?_getD, List.getElem?_eq_getElem hk]
  rfl
theorem ix_tup0 {l : List α} (d : α) (hk : 0 < l.length) : dIxX (.tup (l.map emb)) (.int 0) = some (emb (l.getD 0 d)) := ix_tup (k := 0) d hk
theorem ix_last {l : List α} (d : α) (hk : l ≠ []) : dIxX (.tup (l.map emb)) (.int (-1)) = some (emb (l.getD (l.length - 1) d)) := by
  have h0 : 0 < l.length := List.length_pos_iff.mpr hk
  show L2.atI (l.map emb) (-1) = _
  unfold L2.atI L2.ixN
  rw [if_neg (by decide), if_pos (by rw [List.length_map]; omega), List.length_map]
  show (l.map emb)[((l.length : Int) + -1).toNat]? = _
  rw [show ((l.length : Int) + -1).toNat = l.length - 1 by omega, List.getElem?_map, List.getElem?_eq_getElem (by omega), List.getD_eq_getElem?_getD, List.getElem?_eq_getElem (by omega)]
  rfl
theorem numD_map (l : List α) (d : α) : numD (l.map emb) = (List.range l.length).map fun k : Nat => D.tup [.int (k : Int), emb (l.getD k d)] := by
  unfold numD
  rw [List.length_map]
  refine List.map_congr_left fun k hk => ?_
  have hk' := List.mem_range.mp hk
  rw [List.getD_eq_getElem?_getD, List.getElem?_map, List.getElem?_eq_getElem hk', List.getD_eq_getElem?_getD, List.getElem?_eq_getElem hk']
  rfl
end
theorem rng_int {f : Sls → Res D} {ρ : Sls} {i : Int} {n : Nat} (e : f ρ = ok (.int i)) (hn : i.toNat = n) (h1 : i ≤ 1000) (h2 : -1000 ≤ i) : mRng rng1 [f] ρ = ok ((List.range n).map fun k : Nat => D.int (k : Int)) := by
  unfold mRng
  rw [args_ev e args0, Res.ok_bind]
  show ofO (if i ≤ 1000000 ∧ -1000000 ≤ i then some (rangeD 0 i.toNat) else none) = _
  rw [if_pos (by omega), hn, rangeD0]
  rfl
theorem enum_ev {f : Sls → Res D} {ρ : Sls} {α : Type} {emb : α → D} {l : List α} (d : α) (e : f ρ = ok (.tup (l.map emb))) : mEnumA f ρ = ok ((List.range l.length).map fun k : Nat => D.tup [.int (k : Int), emb (l.getD k d)]) := by
  unfold mEnumA
  rw [e, Res.ok_bind, ← numD_map]
theorem getD_mem {α : Type} {l : List α} {k : Nat} (d : α) (hk : k < l.length) : l.getD k d ∈ l := by
  rw [List.getD_eq_getElem?_getD, List.getElem?_eq_getElem hk]
  exact List.getElem_mem hk
/-- the first of those that are kept -/
theorem filter_head {α : Type} (p : α → Bool) (l : List α) : (l.filter p)[0]? = l.find? p := by
  rw [← List.head?_eq_getElem?, List.head?_filter]
theorem filter_none {α : Type} {p : α → Bool} {l : List α} : l.filter p = [] ↔ l.find? p = none := by
  rw [List.filter_eq_nil_iff, List.find?_eq_none]
section
variable {rows : List (List Nat)} {h w : Nat}
abbrev z0 : P2 := (0, 0)
end
end PC

namespace PC
open PySem L2 PP
open PP.Res (ok exc bad)
/-! ### words -/
def isDir (c : Nat) : Bool := c == 100 || (c == 108 || (c == 114 || c == 117))
theorem lits : Str.ofString "d" = mkS [100] ∧ Str.ofString "l" = mkS [108] ∧ Str.ofString "r" = mkS [114] ∧ Str.ofString "u" = mkS [117] := by decide +kernel
theorem mk1_beq (c k : Nat) : (mkS [c] == mkS [k]) = (c == k) := by
  show decide (mkS [c] = mkS [k]) = decide (c = k)
  simp [mkS_inj]
theorem steps_look (c : Nat) : (tb_STEPS.lookup (mkS [c])).isSome = isDir c := by
  unfold tb_STEPS isDir
  obtain ⟨e1, e2, e3, e4⟩ := lits
  rw [e1, e2, e3, e4]
  simp only [List.lookup_cons, mk1_beq]
  cases c == 100 <;> cases c == 108 <;> cases c == 114 <;> cases c == 117 <;> rfl
theorem is_word_tx {l : List Nat} (h : l.length ≤ 1000) : F_is_word [tx l] = ok (.bl (l.all isDir)) := by
  refine runF_rt (ret_ev ((andV_ev (a := true) (bi_ev (args_ev rfl (args_ev rfl args0)) rfl) fun _ => bi1 (lc_ev0 (as := l) (emb := sg) (g := fun c => D.bl (isDir c)) (it_ev rfl (items_tx (by omega))) fun c hc => ⟨_, rfl, ?_⟩) (dAll_map isDir l)).trans rfl))
  show ok (D.bl (tb_STEPS.lookup (mkS [c])).isSome) = _
  rw [steps_look]
theorem is_word_no {v : D} (h : dIsi [v, .ty "str"] = some (.bl false)) : F_is_word [v] = ok (.bl false) :=
  runF_rt (ret_ev ((andV_ev (a := false) (b := false) (bi_ev (args_ev rfl (args_ev rfl args0)) h) fun z => nomatch z).trans rfl))
/-! ### steps -/
def dlt (c : Nat) : P2 := if c = 100 then (1, 0) else if c = 108 then (0, -1) else if c = 114 then (0, 1) else (-1, 0)
def nxt (p : P2) (c : Nat) : P2 := (p.1 + (dlt c).1, p.2 + (dlt c).2)
def stp (rows : List (List Nat)) (h w : Nat) (p : P2) (c : Nat) : P2 := if opn rows h w (nxt p c) = true then nxt p c else p
theorem steps_get {c : Nat} (h : isDir c = true) : tb_STEPS.lookup (mkS [c]) = some (pt (dlt c)) := by
  unfold isDir at h
  simp only [Bool.or_eq_true, beq_iff_eq] at h
  rcases h with rfl | rfl | rfl | rfl <;> rfl
theorem stepped_ok {rows : List (List Nat)} {h w : Nat} (R : OkRows rows h w) (p : P2) {c : Nat} (hc : isDir c = true) : F_stepped [mz rows h w, pt p, sg c] = ok (pt (stp rows h w p c)) := by
  refine runF_rt ?_
  let ρ : Sls := [.fz (mz rows h w), .fz (pt p), .fz (sg c), .no, .no, .no]
  have g : mKGet tb_STEPS (mVar 2) ρ = ok (pt (dlt c)) := by
    show ofO (tb_STEPS.lookup (mkS [c])) = _
    rw [steps_get hc]
    rfl
  refine seq_nx2 (asg2_ev g) (seq_nx2 (set_ev (tup_ev (args_ev (i_add (op2_ev rfl rfl rfl) rfl) (args_ev (i_add (op2_ev rfl rfl rfl) rfl) args0)))) ?_)
  have o := is_open_pt R (nxt p c)
  refine (ret_ev (if_ev (t_ev (call_ev (args_ev rfl (args_ev rfl args0)) o)) (fun _ => rfl) (fun _ => rfl))).trans ?_
  unfold stp
  by_cases ho : opn rows h w (nxt p c) = true
  · rw [if_pos ho, if_pos ho]; rfl
  · rw [if_neg ho, if_neg ho]
def run (rows : List (List Nat)) (h w : Nat) (p : P2) (l : List Nat) : P2 := l.foldl (stp rows h w) p
def tld (rows : List (List Nat)) (h w : Nat) : P2 → List Nat → List Nat
  | _, [] => []
  | p, c :: l => (if stp rows h w p c = p then 48 else 49) :: tld rows h w (stp rows h w p c) l
theorem tld_length (rows : List (List Nat)) (h w : Nat) : ∀ (l : List Nat) (p : P2), (tld rows h w p l).length = l.length
  | [], _ => rfl
  | c :: l, p => congrArg (· + 1) (tld_length rows h w l _)
theorem told_ok {rows : List (List Nat)} {h w : Nat} (R : OkRows rows h w) (p : P2) {l : List Nat} (hl : l.length ≤ 1000) (hd : l.all isDir = true) : F_told [mz rows h w, pt p, tx l] = ok (tx (tld rows h w p l)) := by
  refine runF_rt ?_
  have i0 : sSet 3 (mC (.str "")) (startS 6 [mz rows h w, pt p, tx l]) = .nx [.fz (mz rows h w), .fz (pt p), .fz (tx l), .fz (tx []), .no, .no] := by rw [lit_nil]; rfl
  have it : mIt (mVar 2) [.fz (mz rows h w), .fz (pt p), .fz (tx l), .fz (tx []), .no, .no] = ok (l.map sg) := it_ev rfl (items_tx (by omega))
  have key : ∀ (l : List Nat) (q : P2) (t : List Nat) (s4 s5 : Sl) (l0 : D), l.all isDir = true → t.length + l.length ≤ 1000 → ∃ q' s4' s5', forL (fun x ρ => thenF (tgName 4 x ρ).quiet ρ (sSeq (sSet 5 (mCall F_stepped [(mVar 0), (mVar 1), (mVar 4)]))
    (sSeq (sSet 3 (mOp2 dAdd (mVar 3) (mIf (mT (mOp2 dEq (mVar 5) (mVar 1))) (mC (.str "0")) (mC (.str "1")))))
    (sSet 1 (mVar 5))))) (l.map sg) [.fz (mz rows h w), .fz (pt q), .fz l0, .fz (tx t), s4, s5] = .nx [.fz (mz rows h w), q', .fz l0, .fz (tx (t ++ tld rows h w q l)), s4', s5'] := by
    intro l
    induction l with
    | nil => exact fun q t s4 s5 l0 _ _ => ⟨_, _, _, by unfold tld; rw [List.append_nil]; rfl⟩
    | cons c r ih =>
      intro q t s4 s5 l0 hd hb
      rw [List.all_cons, Bool.and_eq_true] at hd
      rw [List.length_cons] at hb
      obtain ⟨q', s4', s5', e⟩ := ih (stp rows h w q c) (t ++ [if stp rows h w q c = q then 48 else 49]) (.fz (sg c)) (.fz (pt (stp rows h w q c))) l0 hd.2 (by simp; omega)
      refine ⟨q', s4', s5', ?_⟩
      have t1 : sSet 5 (mCall F_stepped [(mVar 0), (mVar 1), (mVar 4)]) [.fz (mz rows h w), .fz (pt q), .fz l0, .fz (tx t), .fz (sg c), s5] = .nx [.fz (mz rows h w), .fz (pt q), .fz l0, .fz (tx t), .fz (sg c), .fz (pt (stp rows h w q c))] := set_ev (call_ev (args_ev rfl (args_ev rfl (args_ev rfl args0))) (stepped_ok R q hd.1))
      have t2 : sSet 3 (mOp2 dAdd (mVar 3) (mIf (mT (mOp2 dEq (mVar 5) (mVar 1))) (mC (.str "0")) (mC (.str "1")))) [.fz (mz rows h w), .fz (pt q), .fz l0, .fz (tx t), .fz (sg c), .fz (pt (stp rows h w q c))] = .nx [.fz (mz rows h w), .fz (pt q), .fz l0, .fz (tx (t ++ [if stp rows h w q c = q then 48 else 49])), .fz (sg c), .fz (pt (stp rows h w q c))] := by
        refine set_ev (op2_ev rfl (if_ev (t_eqP rfl rfl) (fun _ => rfl) (fun _ => rfl)) ?_)
        have lz : Str.ofString "0" = mkS [48] ∧ Str.ofString "1" = mkS [49] := by decide +kernel
        rw [lz.1, lz.2]
        by_cases hq : stp rows h w q c = q
        · rw [if_pos (decide_eq_true hq), if_pos hq]
          exact dAdd_tx (by simp; omega)
        · rw [if_neg (by simpa using hq), if_neg hq]
          exact dAdd_tx (by simp; omega)
      have st := seq_nx2 t1 (seq_nx2 (t := sSet 1 (mVar 5)) t2 rfl)
      have e2 : tld rows h w q (c :: r) = (if stp rows h w q c = q then 48 else 49) :: tld rows h w (stp rows h w q c) r := rfl
      rw [e2, show t ++ (if stp rows h w q c = q then 48 else 49) :: tld rows h w (stp rows h w q c) r = (t ++ [if stp rows h w q c = q then 48 else 49]) ++ tld rows h w (stp rows h w q c) r by simp]
      rw [← e]
      show (match (sSeq _ _ [.fz (mz rows h w), .fz (pt q), .fz l0, .fz (tx t), .fz (sg c), s5]) with
        | .nx ρ' => forL _ (r.map sg) ρ'
        | .ct ρ' => forL _ (r.map sg) ρ'
        | .bk ρ' => .nx ρ'
        | .rt d => .rt d
        | .exc c ρ' => .exc c ρ'
        | .bad => .bad) = _
      rw [st]
      rfl
  obtain ⟨q', s4', s5', e⟩ := key l p [] .no .no (tx l) hd (by simpa using hl)
  exact seq_nx2 i0 (seq_nx2 ((for_ev it).trans e) rfl)
section
variable {rows : List (List Nat)} {h w : Nat}
theorem nxt_near (p : P2) {c : Nat} (hc : isDir c = true) : decide (nxt p c ∈ nbs rows h w p) = opn rows h w (nxt p c) := by
  have hm : nxt p c ∈ steps4.map (plus p) := by
    unfold isDir at hc
    simp only [Bool.or_eq_true, beq_iff_eq] at hc
    rcases hc with rfl | rfl | rfl | rfl <;> simp [steps4, nxt, dlt, plus]
  unfold nbs
  rw [Bool.eq_iff_iff, decide_eq_true_eq, List.mem_filter]
  exact ⟨fun z => z.2, fun z => ⟨hm, z⟩⟩
theorem step_ok (R : OkRows rows h w) (p : P2) {c : Nat} (hc : isDir c = true) : F__law_step [rowsD rows, pt p, sg c] = ok (pt (stp rows h w p c)) := by
  refine runF_rt ?_
  let ρ : Sls := [.fz (rowsD rows), .fz (pt p), .fz (sg c), .no, .no]
  have g : mDispGet [("d", (mTup [(mC (.int 1)), (mC (.int 0))])), ("l", (mTup [(mC (.int 0)), (mOp1 dNeg (mC (.int 1)))])), ("r", (mTup [(mC (.int 0)), (mC (.int 1))])), ("u", (mTup [(mOp1 dNeg (mC (.int 1))), (mC (.int 0))]))] (mVar 2) ρ = ok (pt (dlt c)) := by
    unfold isDir at hc
    simp only [Bool.or_eq_true, beq_iff_eq] at hc
    rcases hc with rfl | rfl | rfl | rfl <;> rfl
  refine seq_nx2 (set_ev g) (seq_nx2 (set_ev (tup_ev (args_ev (i_add (op2_ev rfl rfl rfl) (op2_ev rfl rfl rfl)) (args_ev (i_add (op2_ev rfl rfl rfl) (op2_ev rfl rfl rfl)) args0)))) ?_)
  refine (ret_ev (if_ev (t_ev (op2_ev (b := .lst ((nbs rows h w p).map pt)) (c := .bl (opn rows h w (nxt p c))) rfl (call_ev (args_ev rfl (args_ev rfl args0)) (near_ok R p)) ?_)) (fun _ => rfl) (fun _ => rfl))).trans ?_
  · rw [← nxt_near p hc]
    exact inX_lst (in_pt (nxt p c) _)
  · unfold stp
    by_cases ho : opn rows h w (nxt p c) = true
    · rw [if_pos ho, if_pos ho]; rfl
    · rw [if_neg ho, if_neg ho]
theorem lled_ok (R : OkRows rows h w) (p : P2) {l : List Nat} (hl : l.length ≤ 1000) (hd : l.all isDir = true) : F__law_led [rowsD rows, pt p, tx l] = ok (.tup [pt (run rows h w p l), tx (tld rows h w p l)]) := by
  refine runF_rt ?_
  have i0 : sSet 3 (mC (.str "")) (startS 6 [rowsD rows, pt p, tx l]) = .nx [.fz (rowsD rows), .fz (pt p), .fz (tx l), .fz (tx []), .no, .no] := by rw [lit_nil]; rfl
  have it : mIt (mVar 2) [.fz (rowsD rows), .fz (pt p), .fz (tx l), .fz (tx []), .no, .no] = ok (l.map sg) := it_ev rfl (items_tx (by omega))
  have key : ∀ (l : List Nat) (q : P2) (t : List Nat) (s4 s5 : Sl) (l0 : D), l.all isDir = true → t.length + l.length ≤ 1000 → ∃ s4' s5', forL (fun x ρ => thenF (tgName 4 x ρ).quiet ρ (sSeq (sSet 5 (mCall F__law_step [(mVar 0), (mVar 1), (mVar 4)]))
    (sPar 1 3 (mVar 5) (mOp2 dAdd (mVar 3) (mIf (mT (mOp2 dEq (mVar 5) (mVar 1))) (mC (.str "0")) (mC (.str "1"))))))) (l.map sg) [.fz (rowsD rows), .fz (pt q), .fz l0, .fz (tx t), s4, s5] = .nx [.fz (rowsD rows), .fz (pt (run rows h w q l)), .fz l0, .fz (tx (t ++ tld rows h w q l)), s4', s5'] := by
    intro l
    induction l with
    | nil => exact fun q t s4 s5 l0 _ _ => ⟨_, _, by unfold tld; rw [List.append_nil]; rfl⟩
    | cons c r ih =>
      intro q t s4 s5 l0 hd hb
      rw [List.all_cons, Bool.and_eq_true] at hd
      rw [List.length_cons] at hb
      obtain ⟨s4', s5', e⟩ := ih (stp rows h w q c) (t ++ [if stp rows h w q c = q then 48 else 49]) (.fz (sg c)) (.fz (pt (stp rows h w q c))) l0 hd.2 (by simp; omega)
      refine ⟨s4', s5', ?_⟩
      have t1 : sSet 5 (mCall F__law_step [(mVar 0), (mVar 1), (mVar 4)]) [.fz (rowsD rows), .fz (pt q), .fz l0, .fz (tx t), .fz (sg c), s5] = .nx [.fz (rowsD rows), .fz (pt q), .fz l0, .fz (tx t), .fz (sg c), .fz (pt (stp rows h w q c))] := set_ev (call_ev (args_ev rfl (args_ev rfl (args_ev rfl args0))) (step_ok R q hd.1))
      have t2 : sPar 1 3 (mVar 5) (mOp2 dAdd (mVar 3) (mIf (mT (mOp2 dEq (mVar 5) (mVar 1))) (mC (.str "0")) (mC (.str "1")))) [.fz (rowsD rows), .fz (pt q), .fz l0, .fz (tx t), .fz (sg c), .fz (pt (stp rows h w q c))] = .nx [.fz (rowsD rows), .fz (pt (stp rows h w q c)), .fz l0, .fz (tx (t ++ [if stp rows h w q c = q then 48 else 49])), .fz (sg c), .fz (pt (stp rows h w q c))] := by
        refine par_ev rfl (op2_ev rfl (if_ev (t_eqP rfl rfl) (fun _ => rfl) (fun _ => rfl)) ?_)
        have lz : Str.ofString "0" = mkS [48] ∧ Str.ofString "1" = mkS [49] := by decide +kernel
        rw [lz.1, lz.2]
        by_cases hq : stp rows h w q c = q
        · rw [if_pos (decide_eq_true hq), if_pos hq]
          exact dAdd_tx (by simp; omega)
        · rw [if_neg (by simpa using hq), if_neg hq]
          exact dAdd_tx (by simp; omega)
      have st := (seq_nx t1).trans t2
      have e2 : tld rows h w q (c :: r) = (if stp rows h w q c = q then 48 else 49) :: tld rows h w (stp rows h w q c) r := rfl
      rw [e2, show t ++ (if stp rows h w q c = q then 48 else 49) :: tld rows h w (stp rows h w q c) r = (t ++ [if stp rows h w q c = q then 48 else 49]) ++ tld rows h w (stp rows h w q c) r by simp]
      refine (forL_nx ?_).trans e
      exact st
  obtain ⟨s4', s5', e⟩ := key l p [] .no .no (tx l) hd (by simpa using hl)
  exact seq_nx2 i0 (seq_nx2 ((for_ev it).trans e) rfl)
end
end PC

namespace PC
open PySem L2 PP
open PP.Res (ok exc bad)
/-! ### pairs of cells -/
abbrev Q2 := P2 × P2
abbrev pp (x : Q2) : D := .tup [pt x.1, pt x.2]
def kQ (x : Q2) : NestedKey := .tup [kP x.1, kP x.2]
theorem kQ_inj {a b : Q2} (h : kQ a = kQ b) : a = b := by
  unfold kQ at h
  injection h with h
  injection h with h1 h2
  injection h2 with h2
  exact Prod.ext (kP_inj.mp h1) (kP_inj.mp h2)
theorem embQ : KeyEmb pp kQ where
  key := fun a => by
    have e : keyD (pp a) = some (kQ a) := by simp [keyD, keyD.keyDs, kQ, kP]
    show (keyD (pp a)).bind (fun k => if k.depth ≤ 8 then some k else none) = _
    rw [e, Option.bind_some, if_pos (by simp [kQ, kP, NestedKey.depth, NestedKey.depthAll])]
  inj := kQ_inj
def qQ (x : Q2) : PyData := .tuple [qP x.1, qP x.2]
theorem toPD_pp (x : Q2) : toPD (pp x) = some (qQ x) := by
  simp [pp, qQ, qP, toPD, toPDs]
theorem sh_qQ (x : Q2) : Sh 2 (qQ x) := Sh.tup (all_cons (sh_qP _) (all_cons (sh_qP _) all_nil))
theorem eqv_qQ (a b : Q2) : PyData.eqv (qQ a) (qQ b) = decide (a = b) := by
  unfold qQ
  simp only [PyData.eqv, PyData.eqvAll, Bool.and_true, eqv_qP]
  rw [Bool.eq_iff_iff]
  simp [Prod.ext_iff]
def leQ (a b : Q2) : Bool := if a.1 = b.1 then leP a.2 b.2 else leP a.1 b.1
theorem leQ_data (a b : Q2) : leQ a b = PySem.W.dataLe false qQ a b := by
  rw [PySem.W.dataLe_eq]
  show _ = !PySem.W.dataLt (qQ b) (qQ a)
  unfold qQ
  rw [PySem.W.dataLt_pair (by rfl) (by rfl), eqv_qP]
  unfold leQ
  by_cases h : a.1 = b.1
  · rw [if_pos h, if_pos (by simp [h])]
    by_cases h2 : b.2 = a.2
    · rw [eqv_qP, if_pos (by simp [h2]), h2]
      have := leP_tot a.2 a.2
      rw [Bool.or_self] at this
      rw [this]
      rfl
    · rw [eqv_qP, if_neg (by simp [h2]), leP_data', Bool.not_not]
  · rw [if_neg h, if_neg (by simp; exact fun e => h e.symm)]
    exact leP_data a.1 b.1
theorem alike_qQ (a b : Q2) : PySem.W.alike (qQ a) (qQ b) = true := rfl
theorem dLtX_pp (a b : Q2) : dLtX (pp a) (pp b) = some (.bl (!leQ b a)) := by
  have e : PySem.W.dataLt (qQ a) (qQ b) = !leQ b a := by
    have := leQ_data b a
    rw [PySem.W.dataLe_eq] at this
    rw [this]
    simp
  show cmpD cLt (pp a) (pp b) = _
  unfold cmpD
  rw [toPD_pp, toPD_pp, Option.bind_some, Option.bind_some, alike_qQ, if_pos (by simp [qQ, qP, isNone, PyData.depth, PyData.depthAll])]
  show some (D.bl (PySem.W.dataLt (qQ a) (qQ b))) = _
  rw [e]
theorem dGeX_pp (a b : Q2) : dGeX (pp a) (pp b) = some (.bl (leQ b a)) := by
  have e : PySem.W.dataLt (qQ a) (qQ b) = !leQ b a := by
    have := leQ_data b a
    rw [PySem.W.dataLe_eq] at this
    rw [this]
    simp
  show cmpD cGe (pp a) (pp b) = _
  unfold cmpD
  rw [toPD_pp, toPD_pp, Option.bind_some, Option.bind_some, alike_qQ, if_pos (by simp [qQ, qP, isNone, PyData.depth, PyData.depthAll])]
  show some (D.bl (!PySem.W.dataLt (qQ a) (qQ b))) = _
  rw [e, Bool.not_not]
theorem dGeX_pt (a b : P2) : dGeX (pt a) (pt b) = some (.bl (leP b a)) := by
  show cmpD cGe (pt a) (pt b) = _
  unfold cmpD
  rw [toPD_ptQ, toPD_ptQ, Option.bind_some, Option.bind_some, alike_qP, if_pos (by simp [qP, isNone, PyData.depth, PyData.depthAll])]
  show some (D.bl (!PySem.W.dataLt (qP a) (qP b))) = _
  rw [leP_data', Bool.not_not]
theorem in_pp (x : Q2) (l : List Q2) : inSeq (pp x) (l.map pp) = some (decide (x ∈ l)) := inSeq_map (q := qQ) toPD_pp sh_qQ (fun a b => by rw [eqv_qQ, decide_eq_true_eq]) (by decide) decide_eq_true_iff
/-! ### the order of pairs -/
def ltQQ (a b : Q2) : Prop := ltP a.1 b.1 ∨ (a.1 = b.1 ∧ ltP a.2 b.2)
theorem leQ_iff (a b : Q2) : leQ a b = true ↔ ltQQ a b ∨ a = b := by
  have one : ∀ x y : P2, leP x y = true ↔ ltP x y ∨ x = y := fun x y => ⟨fun h => by
    by_cases e : x = y
    · exact .inr e
    · exact .inl (leP_lt h e), fun h => h.elim lt_leP fun e => by
      have := leP_tot x x
      rw [Bool.or_self] at this
      rw [← e]; exact this⟩
  unfold leQ ltQQ
  by_cases h : a.1 = b.1
  · rw [if_pos h, one]
    constructor
    · rintro (q | q)
      · exact .inl (.inr ⟨h, q⟩)
      · exact .inr (Prod.ext h q)
    · rintro ((q | ⟨_, q⟩) | q)
      · exact absurd (h ▸ q) (ltP_irr _)
      · exact .inl q
      · exact .inr (by rw [q])
  · rw [if_neg h, one]
    constructor
    · rintro (q | q)
      · exact .inl (.inl q)
      · exact absurd q h
    · rintro ((q | ⟨q, _⟩) | q)
      · exact .inl q
      · exact absurd q h
      · exact absurd (by rw [q]) h
theorem ltQQ_irr (a : Q2) : ¬ ltQQ a a := fun h => h.elim (ltP_irr _) fun h => ltP_irr _ h.2
theorem ltQQ_tr (a b c : Q2) : ltQQ a b → ltQQ b c → ltQQ a c := by
  rintro (h | ⟨h1, h2⟩) (k | ⟨k1, k2⟩)
  · exact .inl (ltP_tr _ _ _ h k)
  · exact .inl (k1 ▸ h)
  · exact .inl (h1 ▸ k)
  · exact .inr ⟨h1.trans k1, ltP_tr _ _ _ h2 k2⟩
theorem ltP_con (a b : P2) : ltP a b ∨ a = b ∨ ltP b a := by
  by_cases e : a = b
  · exact .inr (.inl e)
  · have := leP_tot a b
    rw [Bool.or_eq_true] at this
    rcases this with h | h
    · exact .inl (leP_lt h e)
    · exact .inr (.inr (leP_lt h (Ne.symm e)))
theorem ltQQ_con (a b : Q2) : ltQQ a b ∨ a = b ∨ ltQQ b a := by
  rcases ltP_con a.1 b.1 with h | h | h
  · exact .inl (.inl h)
  · rcases ltP_con a.2 b.2 with k | k | k
    · exact .inl (.inr ⟨h, k⟩)
    · exact .inr (.inl (Prod.ext h k))
    · exact .inr (.inr (.inr ⟨h.symm, k⟩))
  · exact .inr (.inr (.inl h))
theorem leQ_tot (a b : Q2) : (leQ a b || leQ b a) = true := by
  rw [Bool.or_eq_true, leQ_iff, leQ_iff]
  rcases ltQQ_con a b with h | h | h
  · exact .inl (.inl h)
  · exact .inl (.inr h)
  · exact .inr (.inl h)
theorem leQ_tr (a b c : Q2) : leQ a b = true → leQ b c = true → leQ a c = true := by
  rw [leQ_iff, leQ_iff, leQ_iff]
  rintro (h | h) (k | k)
  · exact .inl (ltQQ_tr _ _ _ h k)
  · exact .inl (k ▸ h)
  · exact .inl (h ▸ k)
  · exact .inr (h.trans k)
theorem leQ_anti {a b : Q2} (h : leQ a b = true) (k : leQ b a = true) : a = b := by
  rw [leQ_iff] at h k
  rcases h with h | h
  · rcases k with k | k
    · exact absurd (ltQQ_tr _ _ _ h k) (ltQQ_irr _)
    · exact k.symm
  · exact h
abbrev AscQ (l : List Q2) : Prop := l.Pairwise ltQQ
theorem not_leQ {a b : Q2} : (!leQ b a) = true ↔ ltQQ a b := by
  rw [Bool.not_eq_true', ← Bool.not_eq_true, leQ_iff]
  constructor
  · intro h
    rcases ltQQ_con a b with k | k | k
    · exact k
    · exact absurd (.inr k.symm) h
    · exact absurd (.inl k) h
  · intro h k
    rcases k with k | k
    · exact ltQQ_irr _ (ltQQ_tr _ _ _ h k)
    · exact ltQQ_irr _ (k ▸ h)
theorem not_leP {a b : P2} : (!leP b a) = true ↔ ltP a b := by
  constructor
  · intro h
    rcases ltP_con a b with k | k | k
    · exact k
    · rw [k] at h
      have := leP_tot b b
      rw [Bool.or_self] at this
      rw [this] at h; cases h
    · rw [lt_leP k] at h; cases h
  · intro h
    cases q : leP b a with
    | false => rfl
    | true =>
      have ne : b ≠ a := fun e => ltP_irr a (e ▸ h)
      exact absurd (ltP_tr _ _ _ h (leP_lt q ne)) (ltP_irr _)
end PC

namespace PP
open PySem L2
open Res (ok exc bad)
/-! ### sorted(set(xs)) in plain Lean -/
def nub {α : Type} [DecidableEq α] : List α → List α
  | [] => []
  | a :: l => if a ∈ nub l then nub l else a :: nub l
theorem mem_nub {α : Type} [DecidableEq α] {x : α} : ∀ {l : List α}, x ∈ nub l ↔ x ∈ l
  | [] => Iff.rfl
  | a :: l => by
    unfold nub
    have ih := mem_nub (x := x) (l := l)
    split
    · rename_i h
      rw [ih, List.mem_cons]
      exact ⟨.inr, fun q => q.elim (fun e => by rw [e]; exact mem_nub.mp h) id⟩
    · rw [List.mem_cons, List.mem_cons, ih]
theorem nub_nd {α : Type} [DecidableEq α] : ∀ l : List α, (nub l).Nodup
  | [] => List.nodup_nil
  | a :: l => by
    unfold nub
    split
    · exact nub_nd l
    · rename_i h
      exact List.nodup_cons.mpr ⟨h, nub_nd l⟩
theorem nub_len {α : Type} [DecidableEq α] (l : List α) : (nub l).length ≤ l.length := List.Nodup.length_le_of_subset (nub_nd l) fun x hx => mem_nub.mp hx
section
variable {α : Type} [DecidableEq α] {e : α → D} {kf : α → NestedKey} {q : α → PyData} {le : α → α → Bool}
theorem dedK_map (E : KeyEmb e kf) : ∀ as : List α, dedK (as.map e) = (nub as).map e
  | [] => rfl
  | a :: as => by
    rw [List.map_cons]
    unfold dedK nub
    rw [dedK_map E as]
    have c : ((nub as).map e).any (fun y => decide (keyT y = keyT (e a))) = decide (a ∈ nub as) := by
      rw [Bool.eq_iff_iff, List.any_eq_true, decide_eq_true_iff]
      constructor
      · rintro ⟨y, hy, ey⟩
        obtain ⟨b, hb, rfl⟩ := List.mem_map.mp hy
        have ey := of_decide_eq_true ey
        rw [E.key, E.key] at ey
        rw [← E.inj (Option.some.inj ey)]
        exact hb
      · exact fun h => ⟨e a, List.mem_map_of_mem h, decide_eq_true rfl⟩
    rw [c]
    by_cases h : a ∈ nub as
    · rw [if_pos (decide_eq_true h), if_pos h]
    · rw [if_neg (by simpa using h), if_neg h]
      rfl
theorem srtD_map (hq : ∀ a, toPD (e a) = some (q a)) (hle : ∀ a b, le a b = PySem.W.dataLe false q a b) (as : List α) : srtD (as.map e) = (as.mergeSort le).map e := by
  unfold srtD
  rw [toPDs_map fun a _ => hq a]
  exact sortD_map fun a _ b _ => hle a b
theorem sort_perm (tot : ∀ a b, (le a b || le b a) = true) (tr : ∀ a b c, le a b = true → le b c = true → le a c = true) (an : ∀ a b, le a b = true → le b a = true → a = b) {l m : List α} (p : l.Perm m) : l.mergeSort le = m.mergeSort le := by
  have s1 := List.pairwise_mergeSort tr tot l
  have s2 := List.pairwise_mergeSort tr tot m
  have pm : (l.mergeSort le).Perm (m.mergeSort le) := (List.mergeSort_perm l le).trans (p.trans (List.mergeSort_perm m le).symm)
  exact List.Perm.eq_of_pairwise (fun a b _ _ h1 h2 => an a b h1 h2) s1 s2 pm
theorem ssn_map (E : KeyEmb e kf) (hq : ∀ a, toPD (e a) = some (q a)) (hle : ∀ a b, le a b = PySem.W.dataLe false q a b) (tot : ∀ a b, (le a b || le b a) = true) (tr : ∀ a b c, le a b = true → le b c = true → le a c = true) (an : ∀ a b, le a b = true → le b a = true → a = b)
    {as : List α} (hs : sortOk (as.map q) = true) (hl : as.length ≤ 2000) : ssn (as.map e) = some (.lst (((nub as).mergeSort le).map e)) := by
  unfold ssn
  rw [toPDs_map fun a _ => hq a, Option.bind_some, if_pos, dedK_map E, srtD_map hq hle]
  refine ⟨hs, by rw [List.length_map]; exact hl, fun x hx => ?_, fun ys pm => ?_⟩
  · obtain ⟨a, _, rfl⟩ := List.mem_map.mp hx
    rw [E.key]; rfl
  · rw [dedK_map E] at pm ⊢
    obtain ⟨bs, rfl⟩ : ∃ bs : List α, ys = bs.map e := by
      have : ∀ y ∈ ys, ∃ a, e a = y := fun y hy => by
        obtain ⟨a, _, ea⟩ := List.mem_map.mp (pm.mem_iff.mp hy)
        exact ⟨a, ea⟩
      clear pm
      induction ys with
      | nil => exact ⟨[], rfl⟩
      | cons y ys ih =>
        obtain ⟨bs, eb⟩ := ih fun z hz => this z (by simp [hz])
        obtain ⟨a, ea⟩ := this y (by simp)
        exact ⟨a :: bs, by rw [eb, ← ea]; rfl⟩
    have ij : ∀ {a b : α}, e a = e b → a = b := fun {a b} h => E.inj (Option.some.inj (by rw [← E.key, ← E.key, h]))
    have pm2 : bs.Perm (nub as) := by
      have nd : (bs.map e).Nodup := pm.nodup_iff.mpr (List.pairwise_map.mpr (List.Pairwise.imp (fun h z => h (ij z)) (nub_nd as)))
      have ndb : bs.Nodup := nd_of_map nd
      refine (List.perm_ext_iff_of_nodup ndb (nub_nd as)).mpr fun a => ?_
      have := pm.mem_iff (a := e a)
      constructor
      · intro h
        obtain ⟨b, hb, eb⟩ := List.mem_map.mp (this.mp (List.mem_map_of_mem h))
        rw [← ij eb]; exact hb
      · intro h
        obtain ⟨b, hb, eb⟩ := List.mem_map.mp (this.mpr (List.mem_map_of_mem h))
        rw [← ij eb]; exact hb
    rw [srtD_map hq hle, srtD_map hq hle, sort_perm tot tr an pm2]
end
end PP

namespace PC
open PySem L2 PP
open PP.Res (ok exc bad)
theorem forL_rng {step : D → Sls → Fl} {I : Nat → Sls → Prop} {n : Nat} {ρ : Sls} (h0 : I 0 ρ) (hs : ∀ j ρ, j < n → I j ρ → ∃ ρ', step (.int (j : Int)) ρ = .nx ρ' ∧ I (j + 1) ρ') : ∃ ρ', forL step ((List.range n).map fun k : Nat => D.int (k : Int)) ρ = .nx ρ' ∧ I n ρ' := by
  obtain ⟨ρ', e, r⟩ := forL_inv (step := step) (R := I) (xs := (List.range n).map fun k : Nat => D.int (k : Int)) (i := 0) (ρ := ρ) (fun j x ρ hx hr => by
    have hj : j < n := by
      have := (List.getElem?_eq_some_iff.mp hx).1
      simpa using this
    rw [List.getElem?_map, List.getElem?_range hj] at hx
    cases hx
    rw [Nat.zero_add] at hr ⊢
    obtain ⟨ρ', e, r⟩ := hs j ρ hj hr
    exact ⟨ρ', .inl e, r⟩) h0
  refine ⟨ρ', e, ?_⟩
  simpa using r
theorem rng_big {f : Sls → Res D} {ρ : Sls} {i : Int} {n : Nat} (e : f ρ = ok (.int i)) (hn : i.toNat = n) (h1 : i ≤ 1000000) (h2 : -1000000 ≤ i) : mRng rng1 [f] ρ = ok ((List.range n).map fun k : Nat => D.int (k : Int)) := by
  unfold mRng
  rw [args_ev e args0, Res.ok_bind]
  show ofO (if i ≤ 1000000 ∧ -1000000 ≤ i then some (rangeD 0 i.toNat) else none) = _
  rw [if_pos (by omega), rangeD0, hn]
  rfl
/-! ### all pairs of a list -/
abbrev prsTo (C : List P2) (n : Nat) : List Q2 := (List.range n).flatMap fun k => (C.drop (k + 1)).map fun o => (C.getD k z0, o)
def prsOf (C : List P2) : List Q2 := prsTo C C.length
theorem prsTo_succ (C : List P2) (n : Nat) : prsTo C (n + 1) = prsTo C n ++ (C.drop (n + 1)).map fun o => (C.getD n z0, o) := by
  unfold prsTo
  rw [List.range_succ, List.flatMap_append, List.flatMap_cons, List.flatMap_nil, List.append_nil]
theorem prs_sum (C : List P2) : ∀ n, n ≤ C.length → (prsTo C n).length * 2 + n * (n + 1) = 2 * (n * C.length)
  | 0, _ => by simp [prsTo]
  | n + 1, l => by
    have ih := prs_sum C n (by omega)
    rw [prsTo_succ, List.length_append, List.length_map, List.length_drop]
    have e1 : (n + 1) * (n + 1 + 1) = n * (n + 1) + 2 * (n + 1) := by rw [Nat.add_mul, Nat.mul_add, Nat.mul_add, Nat.mul_add]; omega
    have e2 : (n + 1) * C.length = n * C.length + C.length := by rw [Nat.succ_mul]
    rw [e1, e2]
    omega
theorem prs_len (C : List P2) : (prsOf C).length * 2 ≤ C.length * C.length := by
  have := prs_sum C C.length (Nat.le_refl _)
  have e1 : C.length * (C.length + 1) = C.length * C.length + C.length := by rw [Nat.mul_add, Nat.mul_one]
  unfold prsOf
  omega
theorem prsTo_len (C : List P2) (hl : C.length ≤ 60) {n : Nat} (h : n ≤ C.length) : (prsTo C n).length ≤ 3600 := by
  have := prs_sum C n h
  have : n * C.length ≤ 60 * 60 := Nat.mul_le_mul (by omega) hl
  omega
abbrev tp (ps : List P2) : D := .tup (ps.map pt)
theorem pairs_ok (C : List P2) (hl : C.length ≤ 60) : F__law_pairs [tp C] = ok (.lst ((prsOf C).map pp)) := by
  have i0 : sSet 1 (mLst []) (startS 4 [tp C]) = .nx [.fz (tp C), .fz (.lst []), .no, .no] := rfl
  have lenC : mBI dLenX [(mVar 0)] [.fz (tp C), .fz (.lst []), .no, .no] = ok (.int (C.length : Int)) := by
    have := i_lenT (l := C.map pt) (f := mVar 0) (ρ := [.fz (tp C), .fz (.lst []), .no, .no]) rfl
    rwa [List.length_map] at this
  obtain ⟨ρ', e, s2, s3, er⟩ := forL_rng (n := C.length) (I := fun j ρ => ∃ s2 s3, ρ = [.fz (tp C), .fz (.lst ((prsTo C j).map pp)), s2, s3])
    (step := fun x ρ => thenF (tgName 2 x ρ).quiet ρ (sSet 1 (mOp2 dAdd (mVar 1) (mLc (mIt (mSl dSl (mVar 0) (mPart (mOp2 dAdd (mVar 2) (mC (.int 1)))) mNoPart)) [3] (tgName 3) mYes (mTup [(mOp2 dIxX (mVar 0) (mVar 2)), (mVar 3)])))))
    (ρ := [.fz (tp C), .fz (.lst []), .no, .no]) ⟨.no, .no, rfl⟩ (fun k ρ hk ⟨s2, s3, e⟩ => by
      subst e
      refine ⟨[.fz (tp C), .fz (.lst ((prsTo C (k + 1)).map pp)), .fz (.int (k : Int)), s3], ?_, _, _, rfl⟩
      let ρ : Sls := [.fz (tp C), .fz (.lst ((prsTo C k).map pp)), .fz (.int (k : Int)), s3]
      have lc : mLc (mIt (mSl dSl (mVar 0) (mPart (mOp2 dAdd (mVar 2) (mC (.int 1)))) mNoPart)) [3] (tgName 3) mYes (mTup [(mOp2 dIxX (mVar 0) (mVar 2)), (mVar 3)]) ρ = ok (.lst (((C.drop (k + 1)).map fun o => (C.getD k z0, o)).map pp)) := by
        rw [List.map_map]
        refine lc_ev0 (as := C.drop (k + 1)) (emb := pt) (g := fun o => pp (C.getD k z0, o)) (it_ev (u := .tup ((C.drop (k + 1)).map pt)) (sl_from rfl (i_add rfl rfl) ?_) rfl) fun o ho => ⟨[.fz (tp C), .fz (.lst ((prsTo C k).map pp)), .fz (.int (k : Int)), .fz (pt o)], rfl, tup_ev (args_ev (op2_ev rfl rfl (ix_tup (emb := pt) z0 hk)) (args_ev rfl args0))⟩
        show some (D.tup (cutD (C.map pt) (some ((k : Int) + 1)) none)) = _
        rw [cutD_from (by omega), ← List.map_drop, show ((k : Int) + 1).toNat = k + 1 by omega]
      show sSet 1 _ ρ = _
      have b1 := prsTo_len C hl (n := k) (by omega)
      refine set_ev (op2_ev rfl lc ((dAdd_lst ?_).trans ?_))
      · rw [List.length_map, List.length_map, List.length_map, List.length_drop]; omega
      · rw [← List.map_append, ← prsTo_succ])
  subst er
  exact runF_rt (seq_nx2 i0 (seq_nx2 ((for_ev (rng_big lenC (by omega) (by omega) (by omega))).trans e) (ret_ev rfl)))
theorem mem_prs {C : List P2} (a : Asc C) {x : Q2} : x ∈ prsOf C ↔ x.1 ∈ C ∧ x.2 ∈ C ∧ ltP x.1 x.2 := by
  unfold prsOf prsTo
  rw [List.mem_flatMap]
  constructor
  · rintro ⟨k, hk, hx⟩
    have hk := List.mem_range.mp hk
    obtain ⟨o, ho, rfl⟩ := List.mem_map.mp hx
    obtain ⟨i, hi, rfl⟩ := List.mem_iff_getElem.mp ho
    rw [List.length_drop] at hi
    rw [List.getElem_drop]
    refine ⟨getD_mem z0 hk, List.getElem_mem _, ?_⟩
    have e : C.getD k z0 = C[k] := by rw [List.getD_eq_getElem?_getD, List.getElem?_eq_getElem hk]; rfl
    show ltP (C.getD k z0) _
    rw [e]
    exact List.pairwise_iff_getElem.mp a k (k + 1 + i) hk (by omega) (by omega)
  · rintro ⟨h1, h2, lt⟩
    obtain ⟨k, hk, e1⟩ := List.mem_iff_getElem.mp h1
    obtain ⟨j, hj, e2⟩ := List.mem_iff_getElem.mp h2
    have kj : k < j := by
      rcases Nat.lt_trichotomy k j with c | c | c
      · exact c
      · subst c; rw [e1] at e2; rw [e2] at lt; exact absurd lt (ltP_irr _)
      · have := List.pairwise_iff_getElem.mp a j k hj hk c
        rw [e1, e2] at this
        exact absurd (ltP_tr _ _ _ lt this) (ltP_irr _)
    refine ⟨k, List.mem_range.mpr hk, List.mem_map.mpr ⟨x.2, ?_, ?_⟩⟩
    · rw [List.mem_iff_getElem]
      exact ⟨j - (k + 1), by rw [List.length_drop]; omega, by rw [List.getElem_drop, ← e2]; congr 1; omega⟩
    · have e : C.getD k z0 = C[k] := by rw [List.getD_eq_getElem?_getD, List.getElem?_eq_getElem hk]; rfl
      rw [e, e1]
theorem prs_asc {C : List P2} (a : Asc C) : AscQ (prsOf C) := by
  have key : ∀ n, n ≤ C.length → AscQ (prsTo C n) ∧ ∀ x ∈ prsTo C n, ∃ k, k < n ∧ x.1 = C.getD k z0 := by
    intro n
    induction n with
    | zero => exact fun _ => ⟨List.Pairwise.nil, fun x hx => by simp [prsTo] at hx⟩
    | succ n ih =>
      intro h
      obtain ⟨i1, i2⟩ := ih (by omega)
      rw [prsTo_succ]
      refine ⟨List.pairwise_append.mpr ⟨i1, ?_, fun x hx y hy => ?_⟩, fun x hx => ?_⟩
      · exact List.pairwise_map.mpr (List.Pairwise.imp (fun h => .inr ⟨rfl, h⟩) (a.sublist (List.drop_sublist _ _)))
      · obtain ⟨k, hk, ek⟩ := i2 x hx
        obtain ⟨o, _, rfl⟩ := List.mem_map.mp hy
        refine .inl ?_
        have e1 : C.getD k z0 = C[k] := by rw [List.getD_eq_getElem?_getD, List.getElem?_eq_getElem (by omega)]; rfl
        have e2 : C.getD n z0 = C[n] := by rw [List.getD_eq_getElem?_getD, List.getElem?_eq_getElem (by omega)]; rfl
        show ltP x.1 (C.getD n z0)
        rw [ek, e1, e2]
        exact List.pairwise_iff_getElem.mp a k n (by omega) (by omega) hk
      · rcases List.mem_append.mp hx with q | q
        · obtain ⟨k, hk, ek⟩ := i2 x q
          exact ⟨k, by omega, ek⟩
        · obtain ⟨o, _, rfl⟩ := List.mem_map.mp q
          exact ⟨n, by omega, rfl⟩
  exact (key C.length (Nat.le_refl _)).1
theorem ascQ_nd {l : List Q2} (h : AscQ l) : l.Nodup := List.Pairwise.imp (fun {x y} (a : ltQQ x y) (e : x = y) => ltQQ_irr y (by rw [e] at a; exact a)) h
/-! ### a pair behind a sign -/
section
variable {rows : List (List Nat)} {h w : Nat}
def beh (rows : List (List Nat)) (h w : Nat) (x : Q2) (c : Nat) : Q2 := if leP (stp rows h w x.1 c) (stp rows h w x.2 c) = true then (stp rows h w x.1 c, stp rows h w x.2 c) else (stp rows h w x.2 c, stp rows h w x.1 c)
theorem sort2 (a b : P2) : srt [a, b] = if leP a b = true then [a, b] else [b, a] := by
  by_cases c : leP a b = true
  · rw [if_pos c]
    exact List.mergeSort_of_pairwise (by simp [c])
  · rw [if_neg c]
    have lt : ltP b a := by
      rcases ltP_con a b with k | k | k
      · exact absurd (lt_leP k) c
      · rw [k] at c
        have := leP_tot b b
        rw [Bool.or_self] at this
        exact absurd this c
      · exact k
    have nd : ([a, b] : List P2).Nodup := by
      simp
      intro e
      rw [e] at lt
      exact ltP_irr _ lt
    exact asc_eq (srt_asc nd) (by simp [lt]) fun x => by rw [srt_mem]; simp [or_comm]
theorem behind_ok (R : OkRows rows h w) (x : Q2) {c : Nat} (hc : isDir c = true) : F__law_behind [rowsD rows, pp x, sg c] = ok (pp (beh rows h w x c)) := by
  refine runF_rt (ret_ev (bi1 (bi1 (lst_ev (args_ev (call_ev (args_ev rfl (args_ev (op2_ev rfl rfl rfl) (args_ev rfl args0))) (step_ok R x.1 hc)) (args_ev (call_ev (args_ev rfl (args_ev (op2_ev rfl rfl rfl) (args_ev rfl args0))) (step_ok R x.2 hc)) args0))) (sorted_pt [stp rows h w x.1 c, stp rows h w x.2 c])) ?_))
  show some (D.tup ((srt [stp rows h w x.1 c, stp rows h w x.2 c]).map pt)) = _
  rw [sort2]
  unfold beh
  split <;> rfl
end
end PC

namespace PC
open PySem L2 PP
open PP.Res (ok exc bad)
/-! ### d[k] = v, the key there already, the last one -/
theorem put_last {α : Type} [DecidableEq α] {e : α → D} {kf : α → NestedKey} (E : KeyEmb e kf) {ρ : Sls} {i : Nat} {f g : Sls → Res D} {a : α} {v u : D} {ps : List (α × D)} (h : ρ[i]? = some (.ow (.dct (asD e (ps ++ [(a, u)]))))) (hf : f ρ = ok (e a)) (hg : g ρ = ok v) (hn : a ∉ ps.map (·.1)) (hl : ps.length ≤ 1000000) :
    sPut i f g ρ = .nx (ρ.set i (.ow (.dct (asD e (ps ++ [(a, v)]))))) := by
  unfold sPut
  rw [h]
  show thenF (g ρ) ρ _ = _
  rw [hg, thenF_ok, hf, thenF_ok, E.key]
  have kk : keysOk (asD e (ps ++ [(a, u)])) = true := keysOk_as E _
  show (if keysOk (asD e (ps ++ [(a, u)])) = true ∧ (asD e (ps ++ [(a, u)])).length < sizeLine then Fl.nx (ρ.set i (.ow (.dct (putD (asD e (ps ++ [(a, u)])) (e a) (kf a) v)))) else .bad) = _
  rw [if_pos ⟨kk, by rw [List.length_map, List.length_append]; have := size1000; simp; omega⟩]
  have fd : (lookD (asD e (ps ++ [(a, u)])) (kf a)).isSome = true := by
    rw [look_as E, Option.isSome_map, find_isSome]
    simp
  unfold putD
  rw [if_pos fd]
  congr 4
  show List.map _ (asD e (ps ++ [(a, u)])) = asD e (ps ++ [(a, v)])
  rw [asD, asD, List.map_append, List.map_append, List.map_append]
  congr 1
  · rw [List.map_map]
    refine List.map_congr_left fun p hp => ?_
    show (if keyD (e p.1) = some (kf a) then _ else _) = _
    rw [if_neg]
    rw [(keyT_ok (E.key p.1)).1]
    exact fun z => hn (List.mem_map.mpr ⟨p, hp, E.inj (Option.some.inj z)⟩)
  · show [if keyD (e a) = some (kf a) then _ else _] = _
    rw [if_pos (keyT_ok (E.key a)).1]
    rfl
/-! ### the rounds -/
section
variable {rows : List (List Nat)} {h w : Nat}
abbrev dirs : List Nat := [100, 108, 114, 117]
theorem dirs_dir : ∀ c ∈ dirs, isDir c = true := by decide
def bmp (rows : List (List Nat)) (h w : Nat) (p : P2) (c : Nat) : Bool := decide (stp rows h w p c = p)
/-- a pair that a sign tells apart, or leads to one that is known -/
def hit (rows : List (List Nat)) (h w : Nat) (ks : List Q2) (x : Q2) (c : Nat) : Bool := (bmp rows h w x.1 c != bmp rows h w x.2 c) || decide (beh rows h w x c ∈ ks)
def sgn (rows : List (List Nat)) (h w : Nat) (ks : List Q2) (x : Q2) : Option Nat := dirs.find? (hit rows h w ks x)
def one (x : Q2) : Option Nat → List (Q2 × Nat)
  | some c => [(x, c)]
  | none => []
def rnd (rows : List (List Nat)) (h w : Nat) (ks : List Q2) (left : List Q2) : List (Q2 × Nat) := left.flatMap fun x => one x (sgn rows h w ks x)
abbrev keys (kn : List (Q2 × Nat)) : List Q2 := kn.map (·.1)
def lft (left : List Q2) (fr : List (Q2 × Nat)) : List Q2 := left.filter fun x => !decide (x ∈ keys fr)
/-- the rounds, as long as a round tells something -/
def tol (rows : List (List Nat)) (h w : Nat) : Nat → List (Q2 × Nat) → List Q2 → List (Q2 × Nat)
  | 0, kn, _ => kn
  | n + 1, kn, left => if rnd rows h w (keys kn) left = [] then kn else tol rows h w n (kn ++ rnd rows h w (keys kn) left) (lft left (rnd rows h w (keys kn) left))
theorem mem_rnd {ks left : List Q2} {y : Q2 × Nat} : y ∈ rnd rows h w ks left ↔ y.1 ∈ left ∧ sgn rows h w ks y.1 = some y.2 := by
  unfold rnd
  rw [List.mem_flatMap]
  constructor
  · rintro ⟨x, hx, hy⟩
    cases q : sgn rows h w ks x with
    | none => rw [q] at hy; cases hy
    | some c =>
      rw [q] at hy
      rw [List.mem_singleton.mp hy]
      exact ⟨hx, q⟩
  · rintro ⟨h1, h2⟩
    exact ⟨y.1, h1, by rw [h2]; exact List.mem_singleton.mpr rfl⟩
theorem rnd_keys {ks left : List Q2} {x : Q2} : x ∈ keys (rnd rows h w ks left) ↔ x ∈ left ∧ (sgn rows h w ks x).isSome = true := by
  rw [List.mem_map]
  constructor
  · rintro ⟨y, hy, rfl⟩
    obtain ⟨a, b⟩ := mem_rnd.mp hy
    exact ⟨a, by rw [b]; rfl⟩
  · rintro ⟨a, b⟩
    obtain ⟨c, hc⟩ := Option.isSome_iff_exists.mp b
    exact ⟨(x, c), mem_rnd.mpr ⟨a, hc⟩, rfl⟩
theorem rnd_nd {ks left : List Q2} (nd : left.Nodup) : (keys (rnd rows h w ks left)).Nodup := by
  unfold rnd
  induction left with
  | nil => exact List.nodup_nil
  | cons x l ih =>
    obtain ⟨n1, n2⟩ := List.nodup_cons.mp nd
    rw [List.flatMap_cons, keys, List.map_append]
    cases q : sgn rows h w ks x with
    | none => exact ih n2
    | some c =>
      refine List.nodup_cons.mpr ⟨fun hx => n1 ?_, ih n2⟩
      exact (rnd_keys (rows := rows) (h := h) (w := w).mp hx).1
theorem rnd_len {ks left : List Q2} : (rnd rows h w ks left).length ≤ left.length := by
  unfold rnd
  induction left with
  | nil => exact Nat.le_refl _
  | cons x l ih =>
    rw [List.flatMap_cons, List.length_append, List.length_cons]
    have h1 : (one x (sgn rows h w ks x)).length ≤ 1 := by cases sgn rows h w ks x <;> simp [one]
    omega
theorem fil_add {α : Type} (p : α → Bool) : ∀ l : List α, (l.filter p).length + (l.filter fun x => !p x).length = l.length
  | [] => rfl
  | a :: l => by
    have ih := fil_add p l
    rw [List.filter_cons, List.filter_cons]
    cases p a <;> simp <;> omega
theorem lft_len {left : List Q2} {fr : List (Q2 × Nat)} (nd : (keys fr).Nodup) (sub : ∀ x ∈ keys fr, x ∈ left) : fr.length + (lft left fr).length ≤ left.length := by
  have h1 := fil_add (fun x => !decide (x ∈ keys fr)) left
  have h2 : (keys fr).length ≤ (left.filter fun x => !(!decide (x ∈ keys fr))).length := List.Nodup.length_le_of_subset nd fun x hx => by
    rw [List.mem_filter]
    exact ⟨sub x hx, by simpa using hx⟩
  rw [List.length_map] at h2
  unfold lft
  omega
theorem last_hit (f : Nat → Bool) (o : Option Nat) : [117, 114, 108, 100].foldl (fun o c => if f c = true then some c else o) o = match dirs.find? f with
  | some c => some c
  | none => o := by
  simp only [List.foldl_cons, List.foldl_nil, dirs, List.find?_cons, List.find?_nil]
  cases f 100 <;> cases f 108 <;> cases f 114 <;> cases f 117 <;> simp
theorem bne_ev {ρ : Sls} {f g : Sls → Res D} {a b : Bool} (e1 : f ρ = ok (.bl a)) (e2 : g ρ = ok (.bl b)) : mT (mOp2 dNe f g) ρ = ok (a != b) := by
  refine t_ev (op2_ev e1 e2 ?_)
  cases a <;> cases b <;> rfl
theorem lit_dlru : Str.ofString "dlru" = mkS dirs := by decide +kernel
theorem lit_urld : Str.ofString "urld" = mkS [117, 114, 108, 100] := by decide +kernel
abbrev kd (kn : List (Q2 × Nat)) : D := .dct (asD pp (kn.map fun y => (y.1, sg y.2)))
theorem kd_keys (kn : List (Q2 × Nat)) : (kn.map fun y => (y.1, sg y.2)).map (·.1) = keys kn := by
  rw [List.map_map]
  rfl
theorem kd_in (kn : List (Q2 × Nat)) (x : Q2) : dInX (pp x) (kd kn) = some (.bl (decide (x ∈ keys kn))) := by
  have := in_as embQ x (kn.map fun y => (y.1, sg y.2))
  rw [kd_keys] at this
  exact this.trans (congrArg (fun b => some (D.bl b)) (decide_eq_decide.mpr Iff.rfl))
theorem kd_not (kn : List (Q2 × Nat)) (x : Q2) : dNotInX (pp x) (kd kn) = some (.bl (!decide (x ∈ keys kn))) := by
  have := not_as embQ x (kn.map fun y => (y.1, sg y.2))
  rw [kd_keys] at this
  exact this.trans (congrArg (fun b => some (D.bl (!b))) (decide_eq_decide.mpr Iff.rfl))
theorem kd_put {ρ : Sls} {i : Nat} {f g : Sls → Res D} {x : Q2} {c : Nat} {kn : List (Q2 × Nat)} (hs : ρ[i]? = some (.ow (kd kn))) (hf : f ρ = ok (pp x)) (hg : g ρ = ok (sg c)) (hn : x ∉ keys kn) (hl : kn.length ≤ 1000000) :
    sPut i f g ρ = .nx (ρ.set i (.ow (kd (kn ++ [(x, c)])))) := by
  have := put_as embQ (a := x) (v := sg c) (ps := kn.map fun y => (y.1, sg y.2)) hs hf hg (by rw [kd_keys]; exact hn) (by rw [List.length_map]; exact hl)
  rw [this]
  show _ = Fl.nx (ρ.set i (.ow (.dct (asD pp ((kn ++ [(x, c)]).map fun y => (y.1, sg y.2))))))
  rw [List.map_append]
  rfl
theorem kd_put2 {ρ : Sls} {i : Nat} {f g : Sls → Res D} {x : Q2} {c c0 : Nat} {kn : List (Q2 × Nat)} (hs : ρ[i]? = some (.ow (kd (kn ++ [(x, c0)])))) (hf : f ρ = ok (pp x)) (hg : g ρ = ok (sg c)) (hn : x ∉ keys kn) (hl : kn.length ≤ 1000000) :
    sPut i f g ρ = .nx (ρ.set i (.ow (kd (kn ++ [(x, c)])))) := by
  have e0 : kd (kn ++ [(x, c0)]) = .dct (asD pp ((kn.map fun y => (y.1, sg y.2)) ++ [(x, sg c0)])) := by
    show D.dct (asD pp ((kn ++ [(x, c0)]).map fun y => (y.1, sg y.2))) = _
    rw [List.map_append]
    rfl
  rw [e0] at hs
  have := put_last embQ (a := x) (v := sg c) (ps := kn.map fun y => (y.1, sg y.2)) hs hf hg (by rw [kd_keys]; exact hn) (by rw [List.length_map]; exact hl)
  rw [this]
  show _ = Fl.nx (ρ.set i (.ow (.dct (asD pp ((kn ++ [(x, c)]).map fun y => (y.1, sg y.2))))))
  rw [List.map_append]
  rfl
end
end PC

namespace PC
open PySem L2 PP
open PP.Res (ok exc bad)
section
variable {rows : List (List Nat)} {h w : Nat}
/-! ### the law's rounds, walked -/
noncomputable abbrev signB : Sls → Fl :=
    (sSeq (sSet 8 (mCall F__law_behind [(mVar 0), (mVar 6), (mVar 7)]))
    (sSeq (sSet 9 (mLc (mIt (mVar 6)) [10] (tgName 10) mYes (mOp2 dEq (mCall F__law_step [(mVar 0), (mVar 10), (mVar 7)]) (mVar 10))))
    (sIf (mOr (mT (mOp2 dNe (mOp2 dIxX (mVar 9) (mC (.int 0))) (mOp2 dIxX (mVar 9) (mC (.int 1))))) (mT (mOp2 dInX (mVar 8) (mVarB 3)))) (sPut 5 (mVar 6) (mVar 7)) sNx)))
abbrev tS (rows : List (List Nat)) (cD left : D) (kn : List (Q2 × Nat)) (s4 s5 s6 s7 s8 s9 : Sl) : Sls := [.fz (rowsD rows), .fz cD, .fz left, .ow (kd kn), s4, s5, s6, s7, s8, s9, .no]
theorem bumps_ok (R : OkRows rows h w) (x : Q2) {c : Nat} (hc : isDir c = true) (cD left : D) (kn : List (Q2 × Nat)) (s4 s5 s8 s9 : Sl) :
    mLc (mIt (mVar 6)) [10] (tgName 10) mYes (mOp2 dEq (mCall F__law_step [(mVar 0), (mVar 10), (mVar 7)]) (mVar 10)) (tS rows cD left kn s4 s5 (.fz (pp x)) (.fz (sg c)) s8 s9) = ok (.lst ([x.1, x.2].map fun p => D.bl (bmp rows h w p c))) :=
  lc_ev0 (as := [x.1, x.2]) (emb := pt) (g := fun p => D.bl (bmp rows h w p c)) (it_ev (u := pp x) rfl rfl) fun p hp => ⟨[.fz (rowsD rows), .fz cD, .fz left, .ow (kd kn), s4, s5, .fz (pp x), .fz (sg c), s8, s9, .fz (pt p)], rfl, op2_ev (call_ev (args_ev rfl (args_ev rfl (args_ev rfl args0))) (step_ok R p hc)) rfl (dEq_pt _ _)⟩
theorem sign_step (R : OkRows rows h w) (kn : List (Q2 × Nat)) (x : Q2) (fr : List (Q2 × Nat)) (hn : x ∉ keys fr) (hl : fr.length ≤ 100000) {c : Nat} (hc : isDir c = true) (o : Option Nat) (cD left : D) (s4 s7 s8 s9 : Sl) :
    ∃ s8' s9', signB (tS rows cD left kn s4 (.ow (kd (fr ++ one x o))) (.fz (pp x)) (.fz (sg c)) s8 s9) = .nx (tS rows cD left kn s4 (.ow (kd (fr ++ one x (if hit rows h w (keys kn) x c = true then some c else o)))) (.fz (pp x)) (.fz (sg c)) s8' s9') := by
  have e1 : sSet 8 (mCall F__law_behind [(mVar 0), (mVar 6), (mVar 7)]) (tS rows cD left kn s4 (.ow (kd (fr ++ one x o))) (.fz (pp x)) (.fz (sg c)) s8 s9) = .nx (tS rows cD left kn s4 (.ow (kd (fr ++ one x o))) (.fz (pp x)) (.fz (sg c)) (.fz (pp (beh rows h w x c))) s9) := set_ev (call_ev (args_ev rfl (args_ev rfl (args_ev rfl args0))) (behind_ok R x hc))
  let bl : D := .lst ([x.1, x.2].map fun p => D.bl (bmp rows h w p c))
  let ρ := tS rows cD left kn s4 (.ow (kd (fr ++ one x o))) (.fz (pp x)) (.fz (sg c)) (.fz (pp (beh rows h w x c))) (.fz bl)
  have e2 : sSet 9 (mLc (mIt (mVar 6)) [10] (tgName 10) mYes (mOp2 dEq (mCall F__law_step [(mVar 0), (mVar 10), (mVar 7)]) (mVar 10))) (tS rows cD left kn s4 (.ow (kd (fr ++ one x o))) (.fz (pp x)) (.fz (sg c)) (.fz (pp (beh rows h w x c))) s9) = .nx ρ := set_ev (bumps_ok R x hc cD left kn s4 _ _ _)
  have c1 : (mOr (mT (mOp2 dNe (mOp2 dIxX (mVar 9) (mC (.int 0))) (mOp2 dIxX (mVar 9) (mC (.int 1))))) (mT (mOp2 dInX (mVar 8) (mVarB 3)))) ρ = ok (hit rows h w (keys kn) x c) :=
    or_ev (bne_ev (op2_ev rfl rfl rfl) (op2_ev rfl rfl rfl)) fun _ => t_ev (op2_ev rfl rfl (kd_in kn _))
  refine ⟨.fz (pp (beh rows h w x c)), .fz bl, (seq_nx e1).trans ((seq_nx e2).trans ?_)⟩
  by_cases hh : hit rows h w (keys kn) x c = true
  · rw [hh] at c1
    rw [if_t c1, if_pos hh]
    cases o with
    | none => exact (kd_put (ρ := ρ) (kn := fr) (by show some (Sl.ow (kd (fr ++ []))) = _; rw [List.append_nil]) rfl rfl hn (by omega)).trans rfl
    | some c0 => exact (kd_put2 (c0 := c0) (ρ := ρ) rfl rfl rfl hn (by omega)).trans rfl
  · have hf : hit rows h w (keys kn) x c = false := by simpa using hh
    rw [hf] at c1
    rw [if_f c1, if_neg hh]
    rfl
theorem signs_all (R : OkRows rows h w) (kn : List (Q2 × Nat)) (x : Q2) (fr : List (Q2 × Nat)) (hn : x ∉ keys fr) (hl : fr.length ≤ 100000) (cD left : D) (s4 s7 s8 s9 : Sl) :
    ∃ s7' s8' s9', sFor (mIt (mC (.str "urld"))) (tgName 7) signB (tS rows cD left kn s4 (.ow (kd fr)) (.fz (pp x)) s7 s8 s9) = .nx (tS rows cD left kn s4 (.ow (kd (fr ++ one x (sgn rows h w (keys kn) x)))) (.fz (pp x)) s7' s8' s9') := by
  obtain ⟨ρ', e, s7', s8', s9', er⟩ := forL_fold (as := [117, 114, 108, 100]) (emb := sg) (i := 0) (b := (none : Option Nat)) (g := fun o c => if hit rows h w (keys kn) x c = true then some c else o)
    (st := fun _ o ρ => ∃ s7 s8 s9, ρ = tS rows cD left kn s4 (.ow (kd (fr ++ one x o))) (.fz (pp x)) s7 s8 s9)
    (step := fun y ρ => thenF (tgName 7 y ρ).quiet ρ signB) (ρ := tS rows cD left kn s4 (.ow (kd fr)) (.fz (pp x)) s7 s8 s9) (fun c hc j o ρ _ ⟨s7, s8, s9, e⟩ => by
      subst e
      have hd : isDir c = true := by
        simp only [List.mem_cons, List.not_mem_nil, or_false] at hc
        rcases hc with rfl | rfl | rfl | rfl <;> rfl
      obtain ⟨s8', s9', e⟩ := sign_step R kn x fr hn hl hd o cD left s4 s7 s8 s9
      exact ⟨_, e, _, _, _, rfl⟩) ⟨s7, s8, s9, by simp [one]⟩
  refine ⟨s7', s8', s9', (for_ev (it_ev (u := tx [117, 114, 108, 100]) (by rw [lit_urld]; rfl) (items_tx (by decide)))).trans (e.trans ?_)⟩
  rw [er, last_hit]
  unfold sgn
  cases dirs.find? (hit rows h w (keys kn) x) <;> rfl
theorem pairs_all (R : OkRows rows h w) (kn : List (Q2 × Nat)) (cD left : D) (s4 : Sl) : ∀ (l : List Q2) (fr : List (Q2 × Nat)) (s6 s7 s8 s9 : Sl), (∀ x ∈ l, x ∉ keys fr) → l.Nodup → fr.length + l.length ≤ 100000 →
    ∃ s6' s7' s8' s9', forL (fun y ρ => thenF (tgName 6 y ρ).quiet ρ (sFor (mIt (mC (.str "urld"))) (tgName 7) signB)) (l.map pp) (tS rows cD left kn s4 (.ow (kd fr)) s6 s7 s8 s9) = .nx (tS rows cD left kn s4 (.ow (kd (fr ++ rnd rows h w (keys kn) l))) s6' s7' s8' s9')
  | [], fr, s6, s7, s8, s9, _, _, _ => ⟨s6, s7, s8, s9, by simp [rnd, forL]⟩
  | x :: l, fr, s6, s7, s8, s9, hn, nd, hl => by
    rw [List.length_cons] at hl
    obtain ⟨n1, n2⟩ := List.nodup_cons.mp nd
    obtain ⟨s7', s8', s9', e⟩ := signs_all R kn x fr (hn x (by simp)) (by omega) cD left s4 s7 s8 s9
    have l1 : (one x (sgn rows h w (keys kn) x)).length ≤ 1 := by cases sgn rows h w (keys kn) x <;> simp [one]
    obtain ⟨t6, t7, t8, t9, e2⟩ := pairs_all R kn cD left s4 l (fr ++ one x (sgn rows h w (keys kn) x)) (.fz (pp x)) s7' s8' s9' (fun y hy hk => by
      rw [keys, List.map_append] at hk
      rcases List.mem_append.mp hk with q | q
      · exact hn y (by simp [hy]) q
      · cases z : sgn rows h w (keys kn) x with
        | none => rw [z] at q; simp [one] at q
        | some c =>
          rw [z] at q
          have : y = x := by simpa [one] using q
          rw [this] at hy
          exact n1 hy) n2 (by rw [List.length_append]; omega)
    refine ⟨t6, t7, t8, t9, ?_⟩
    rw [List.map_cons, forL_nx (show thenF _ _ _ = _ from e), e2, List.append_assoc]
    rfl
theorem kd_ix {fr : List (Q2 × Nat)} (nd : (keys fr).Nodup) {y : Q2 × Nat} (hy : y ∈ fr) : dIxX (kd fr) (pp y.1) = some (sg y.2) := by
  show ((keyT (pp y.1)).bind fun k => if keysOk (asD pp (fr.map fun y => (y.1, sg y.2))) then lookD (asD pp (fr.map fun y => (y.1, sg y.2))) k else none) = _
  rw [embQ.key, Option.bind_some, if_pos (keysOk_as embQ _), look_as embQ]
  clear kd_ix
  induction fr with
  | nil => cases hy
  | cons z fr ih =>
    obtain ⟨n1, n2⟩ := List.nodup_cons.mp nd
    rw [List.map_cons, List.find?_cons]
    by_cases e : z.1 = y.1
    · rw [decide_eq_true (show (z.1, sg z.2).1 = y.1 from e)]
      rcases List.mem_cons.mp hy with q | q
      · rw [q]; rfl
      · exact absurd (List.mem_map.mpr ⟨y, q, e.symm⟩) n1
    · rw [decide_eq_false (show ¬ (z.1, sg z.2).1 = y.1 from e)]
      rcases List.mem_cons.mp hy with q | q
      · exact absurd (by rw [q]) e
      · exact ih n2 q
/-- what is fresh, taken in -/
theorem copy_all (cD left : D) (fr : List (Q2 × Nat)) (nd : (keys fr).Nodup) (s4 : Sl) : ∀ (l kn : List (Q2 × Nat)) (s6 s7 s8 s9 : Sl), (∀ y ∈ l, y ∈ fr) → (∀ y ∈ l, y.1 ∉ keys kn) → (keys l).Nodup → kn.length + l.length ≤ 100000 →
    ∃ s6', forL (fun y ρ => thenF (tgName 6 y ρ).quiet ρ (sPut 3 (mVar 6) (mOp2 dIxX (mVarB 5) (mVar 6)))) ((keys l).map pp) (tS rows cD left kn s4 (.fz (kd fr)) s6 s7 s8 s9) = .nx (tS rows cD left (kn ++ l) s4 (.fz (kd fr)) s6' s7 s8 s9)
  | [], kn, s6, s7, s8, s9, _, _, _, _ => ⟨s6, by simp [forL]⟩
  | y :: l, kn, s6, s7, s8, s9, sb, hn, ndl, hl => by
    rw [List.length_cons] at hl
    obtain ⟨n1, n2⟩ := List.nodup_cons.mp ndl
    have e : sPut 3 (mVar 6) (mOp2 dIxX (mVarB 5) (mVar 6)) (tS rows cD left kn s4 (.fz (kd fr)) (.fz (pp y.1)) s7 s8 s9) = .nx (tS rows cD left (kn ++ [y]) s4 (.fz (kd fr)) (.fz (pp y.1)) s7 s8 s9) :=
      (kd_put (x := y.1) (c := y.2) rfl rfl (op2_ev rfl rfl (kd_ix nd (sb y (by simp)))) (hn y (by simp)) (by omega)).trans rfl
    obtain ⟨s6', e2⟩ := copy_all cD left fr nd s4 l (kn ++ [y]) (.fz (pp y.1)) s7 s8 s9 (fun z hz => sb z (by simp [hz])) (fun z hz hk => by
      rw [keys, List.map_append] at hk
      rcases List.mem_append.mp hk with q | q
      · exact hn z (by simp [hz]) q
      · have q : z.1 = y.1 := by simpa using q
        exact n1 (List.mem_map.mpr ⟨z, hz, q⟩)) n2 (by rw [List.length_append]; simp; omega)
    refine ⟨s6', ?_⟩
    rw [keys, List.map_cons, List.map_cons, forL_nx (show thenF _ _ _ = _ from e)]
    rw [show kn ++ y :: l = kn ++ [y] ++ l by simp]
    exact e2
noncomputable abbrev turnT : Sls → Fl :=
    (sSeq (sSetO 5 (mC (.dct [])))
    (sSeq (sFor (mIt (mVar 2)) (tgName 6) (sFor (mIt (mC (.str "urld"))) (tgName 7) signB))
    (sSeq (sIf (mT (mOp2 dEq (mBI dLenX [(mVarB 5)]) (mC (.int 0)))) (sFrz 3 (sRet (mVar 3))) sNx)
    (sSeq (sSet 2 (mLc (mIt (mVar 2)) [6] (tgName 6) (mT (mOp2 dNotInX (mVar 6) (mVarB 5))) (mVar 6)))
    (sFrz 5 (sFor (mItD (mVar 5)) (tgName 6)
    (sPut 3 (mVar 6) (mOp2 dIxX (mVarB 5) (mVar 6)))))))))
theorem kd_len (kn : List (Q2 × Nat)) : dLenX [kd kn] = some (.int kn.length) := by
  show (if keysOk (asD pp (kn.map fun y => (y.1, sg y.2))) then some (D.int ((asD pp (kn.map fun y => (y.1, sg y.2))).length : Int)) else none) = _
  rw [if_pos (keysOk_as embQ _), List.length_map, List.length_map]
theorem turns_all (R : OkRows rows h w) (cD : D) : ∀ (js : List Nat) (kn : List (Q2 × Nat)) (left : List Q2) (s4 s5 s6 s7 s8 s9 : Sl), (∀ x ∈ left, x ∉ keys kn) → left.Nodup → kn.length + left.length ≤ 50000 →
    forL (fun y ρ => thenF (tgName 4 y ρ).quiet ρ turnT) (js.map fun k : Nat => D.int (k : Int)) (tS rows cD (.lst (left.map pp)) kn s4 s5 s6 s7 s8 s9) = .rt (kd (tol rows h w js.length kn left)) ∨
    ∃ lf s4' s5' s6' s7' s8' s9', forL (fun y ρ => thenF (tgName 4 y ρ).quiet ρ turnT) (js.map fun k : Nat => D.int (k : Int)) (tS rows cD (.lst (left.map pp)) kn s4 s5 s6 s7 s8 s9) = .nx (tS rows cD lf (tol rows h w js.length kn left) s4' s5' s6' s7' s8' s9')
  | [], kn, left, s4, s5, s6, s7, s8, s9, _, _, _ => .inr ⟨_, s4, s5, s6, s7, s8, s9, rfl⟩
  | j :: js, kn, left, s4, s5, s6, s7, s8, s9, dis, nd, hl => by
    let fr := rnd rows h w (keys kn) left
    have ndf : (keys fr).Nodup := rnd_nd nd
    have sbf : ∀ x ∈ keys fr, x ∈ left := fun x hx => (rnd_keys.mp hx).1
    have lf := rnd_len (rows := rows) (h := h) (w := w) (ks := keys kn) (left := left)
    obtain ⟨t6, t7, t8, t9, e1⟩ := pairs_all R kn cD (.lst (left.map pp)) (.fz (.int (j : Int))) left [] s6 s7 s8 s9 (fun x _ hx => by cases hx) nd (by simp; omega)
    rw [List.nil_append] at e1
    have e0 : sSetO 5 (mC (.dct [])) (tS rows cD (.lst (left.map pp)) kn (.fz (.int (j : Int))) s5 s6 s7 s8 s9) = .nx (tS rows cD (.lst (left.map pp)) kn (.fz (.int (j : Int))) (.ow (kd [])) s6 s7 s8 s9) := rfl
    have e1' : sFor (mIt (mVar 2)) (tgName 6) (sFor (mIt (mC (.str "urld"))) (tgName 7) signB) (tS rows cD (.lst (left.map pp)) kn (.fz (.int (j : Int))) (.ow (kd [])) s6 s7 s8 s9) = .nx (tS rows cD (.lst (left.map pp)) kn (.fz (.int (j : Int))) (.ow (kd fr)) t6 t7 t8 t9) := (for_ev (it_ev rfl rfl)).trans e1
    have c : mT (mOp2 dEq (mBI dLenX [(mVarB 5)]) (mC (.int 0))) (tS rows cD (.lst (left.map pp)) kn (.fz (.int (j : Int))) (.ow (kd fr)) t6 t7 t8 t9) = ok (decide ((fr.length : Int) = 0)) := t_eqI (bi1 rfl (kd_len fr)) rfl
    by_cases z : fr = []
    · refine .inl ?_
      rw [List.map_cons, forL_rt (d := kd kn)]
      · show Fl.rt (kd kn) = Fl.rt (kd (if fr = [] then kn else _))
        rw [if_pos z]
      · show turnT _ = _
        refine seq_nx2 e0 (seq_nx2 e1' (seq_rt ((if_t (c.trans ?_)).trans rfl)))
        rw [z]; rfl
    · have zl : fr.length ≠ 0 := fun q => z (List.length_eq_zero_iff.mp q)
      have e3 : sSet 2 (mLc (mIt (mVar 2)) [6] (tgName 6) (mT (mOp2 dNotInX (mVar 6) (mVarB 5))) (mVar 6)) (tS rows cD (.lst (left.map pp)) kn (.fz (.int (j : Int))) (.ow (kd fr)) t6 t7 t8 t9) = .nx (tS rows cD (.lst ((lft left fr).map pp)) kn (.fz (.int (j : Int))) (.ow (kd fr)) t6 t7 t8 t9) :=
        set_ev (lc_ev (as := left) (emb := pp) (p := fun x => !decide (x ∈ keys fr)) (g := pp) (it_ev rfl rfl) fun x hx => ⟨[.fz (rowsD rows), .fz cD, .fz (.lst (left.map pp)), .ow (kd kn), .fz (.int (j : Int)), .ow (kd fr), .fz (pp x), t7, t8, t9, .no], rfl, t_ev (op2_ev rfl rfl (kd_not fr x)), fun _ => rfl⟩)
      obtain ⟨u6, e4⟩ := copy_all (rows := rows) cD (.lst ((lft left fr).map pp)) fr ndf (.fz (.int (j : Int))) fr kn t6 t7 t8 t9 (fun _ h => h) (fun y hy => dis _ (sbf _ (List.mem_map_of_mem hy))) ndf (by show kn.length + (rnd rows h w (keys kn) left).length ≤ _; omega)
      have e4' : sFrz 5 (sFor (mItD (mVar 5)) (tgName 6) (sPut 3 (mVar 6) (mOp2 dIxX (mVarB 5) (mVar 6)))) (tS rows cD (.lst ((lft left fr).map pp)) kn (.fz (.int (j : Int))) (.ow (kd fr)) t6 t7 t8 t9) = .nx (tS rows cD (.lst ((lft left fr).map pp)) (kn ++ fr) (.fz (.int (j : Int))) (.fz (kd fr)) u6 t7 t8 t9) := by
        show sFor (mItD (mVar 5)) (tgName 6) (sPut 3 (mVar 6) (mOp2 dIxX (mVarB 5) (mVar 6))) (tS rows cD (.lst ((lft left fr).map pp)) kn (.fz (.int (j : Int))) (.fz (kd fr)) t6 t7 t8 t9) = _
        refine (for_ev (xs := (keys fr).map pp) ?_).trans e4
        show ok ((asD pp (fr.map fun y => (y.1, sg y.2))).map (·.1)) = _
        rw [List.map_map, List.map_map, List.map_map]
        rfl
      have body : turnT (tS rows cD (.lst (left.map pp)) kn (.fz (.int (j : Int))) s5 s6 s7 s8 s9) = .nx (tS rows cD (.lst ((lft left fr).map pp)) (kn ++ fr) (.fz (.int (j : Int))) (.fz (kd fr)) u6 t7 t8 t9) :=
        seq_nx2 e0 (seq_nx2 e1' (seq_nx2 (if_nx (c.trans (by rw [decide_eq_false (by omega)]))) (seq_nx2 e3 e4')))
      have ll := lft_len ndf sbf
      have llf : fr.length = (rnd rows h w (keys kn) left).length := rfl
      have ih := turns_all R cD js (kn ++ fr) (lft left fr) (.fz (.int (j : Int))) (.fz (kd fr)) u6 t7 t8 t9 (fun x hx hk => by
        obtain ⟨m1, m2⟩ := List.mem_filter.mp hx
        rw [keys, List.map_append] at hk
        rcases List.mem_append.mp hk with q | q
        · exact dis x m1 q
        · simp [q] at m2) (nd.filter _) (by rw [List.length_append]; omega)
      have et : tol rows h w (j :: js).length kn left = tol rows h w js.length (kn ++ fr) (lft left fr) := by
        show (if fr = [] then kn else tol rows h w js.length (kn ++ fr) (lft left fr)) = _
        rw [if_neg z]
      have body' : (fun y ρ => thenF (tgName 4 y ρ).quiet ρ turnT) (D.int (j : Int)) (tS rows cD (.lst (left.map pp)) kn s4 s5 s6 s7 s8 s9) = .nx (tS rows cD (.lst ((lft left fr).map pp)) (kn ++ fr) (.fz (.int (j : Int))) (.fz (kd fr)) u6 t7 t8 t9) := body
      rw [et, List.map_cons, forL_nx body']
      exact ih
/-- what the law's rounds know -/
def toldOf (rows : List (List Nat)) (h w : Nat) : List (Q2 × Nat) := tol rows h w ((prsOf (cellsOf rows h w)).length + 1) [] (prsOf (cellsOf rows h w))
theorem law_told_ok (R : OkRows rows h w) (hl : (cellsOf rows h w).length ≤ 60) : F__law_told [rowsD rows, tp (cellsOf rows h w)] = ok (kd (toldOf rows h w)) := by
  have asc := asc_cells rows h w
  let P := prsOf (cellsOf rows h w)
  have lP := prsTo_len (cellsOf rows h w) hl (Nat.le_refl _)
  have i0 : sParFN 2 3 (mCall F__law_pairs [(mVar 1)]) (mC (.dct [])) (startS 11 [rowsD rows, tp (cellsOf rows h w)]) = .nx (tS rows (tp (cellsOf rows h w)) (.lst (P.map pp)) [] .no .no .no .no .no .no) := by
    unfold sParFN
    have : mCall F__law_pairs [(mVar 1)] (startS 11 [rowsD rows, tp (cellsOf rows h w)]) = ok (.lst (P.map pp)) := call_ev (args_ev rfl args0) (pairs_ok _ hl)
    rw [this]
    rfl
  have it : mRng rng1 [(mOp2 dAdd (mBI dLenX [(mVar 2)]) (mC (.int 1)))] (tS rows (tp (cellsOf rows h w)) (.lst (P.map pp)) [] .no .no .no .no .no .no) = ok ((List.range (P.length + 1)).map fun k : Nat => D.int (k : Int)) := by
    have := i_lenL (l := P.map pp) (f := mVar 2) (ρ := tS rows (tp (cellsOf rows h w)) (.lst (P.map pp)) [] .no .no .no .no .no .no) rfl
    rw [List.length_map] at this
    have lP' : P.length ≤ 3600 := lP
    exact rng_big (i_add this rfl) (by omega) (by omega) (by omega)
  have tt := turns_all R (tp (cellsOf rows h w)) (List.range (P.length + 1)) [] P .no .no .no .no .no .no (fun _ _ h => by cases h) (ascQ_nd (prs_asc asc)) (by have lP' : P.length ≤ 3600 := lP; simp; omega)
  rw [List.length_range] at tt
  rcases tt with e | ⟨lf, s4, s5, s6, s7, s8, s9, e⟩
  · exact runF_rt (seq_nx2 i0 (seq_rt ((for_ev it).trans e)))
  · exact runF_rt (seq_nx2 i0 (seq_nx2 ((for_ev it).trans e) rfl))
end
end PC

namespace PC
open PySem L2 PP
open PP.Res (ok exc bad)
section
variable {rows : List (List Nat)} {h w : Nat}
/-! ### what the rounds know, in plain Lean -/
theorem tol_pre : ∀ (n : Nat) (kn : List (Q2 × Nat)) (left : List Q2), ∃ t, tol rows h w n kn left = kn ++ t
  | 0, kn, _ => ⟨[], by simp [tol]⟩
  | n + 1, kn, left => by
    unfold tol
    split
    · exact ⟨[], by simp⟩
    · obtain ⟨t, e⟩ := tol_pre n (kn ++ rnd rows h w (keys kn) left) (lft left (rnd rows h w (keys kn) left))
      exact ⟨rnd rows h w (keys kn) left ++ t, by rw [e, List.append_assoc]⟩
theorem tol_sub : ∀ (n : Nat) (kn : List (Q2 × Nat)) (left : List Q2), ∀ x ∈ keys (tol rows h w n kn left), x ∈ keys kn ∨ x ∈ left
  | 0, kn, _, x, hx => .inl hx
  | n + 1, kn, left, x, hx => by
    unfold tol at hx
    split at hx
    · exact .inl hx
    · rcases tol_sub n _ _ x hx with q | q
      · rw [keys, List.map_append] at q
        rcases List.mem_append.mp q with q | q
        · exact .inl q
        · exact .inr (rnd_keys.mp q).1
      · exact .inr (List.mem_filter.mp q).1
/-- none is left that a sign would tell -/
theorem tol_end : ∀ (n : Nat) (kn : List (Q2 × Nat)) (left : List Q2), left.Nodup → left.length < n → ∀ x ∈ left, x ∉ keys (tol rows h w n kn left) → sgn rows h w (keys (tol rows h w n kn left)) x = none
  | 0, _, _, _, hl, _, _, _ => absurd hl (Nat.not_lt_zero _)
  | n + 1, kn, left, nd, hl, x, hx, nx => by
    by_cases z : rnd rows h w (keys kn) left = []
    · have e : tol rows h w (n + 1) kn left = kn := by unfold tol; rw [if_pos z]
      rw [e]
      cases q : sgn rows h w (keys kn) x with
      | none => rfl
      | some c =>
        have := mem_rnd (rows := rows) (h := h) (w := w) (ks := keys kn) (left := left) (y := (x, c)) |>.mpr ⟨hx, q⟩
        rw [z] at this
        cases this
    · have e : tol rows h w (n + 1) kn left = tol rows h w n (kn ++ rnd rows h w (keys kn) left) (lft left (rnd rows h w (keys kn) left)) := by
        conv => lhs; unfold tol
        rw [if_neg z]
      rw [e] at nx ⊢
      have ll := lft_len (left := left) (rnd_nd (rows := rows) (h := h) (w := w) (ks := keys kn) nd) fun y hy => (rnd_keys.mp hy).1
      have zl : (rnd rows h w (keys kn) left).length ≠ 0 := fun q => z (List.length_eq_zero_iff.mp q)
      refine tol_end n _ _ (nd.filter _) (by unfold lft at ll; omega) x ?_ nx
      refine List.mem_filter.mpr ⟨hx, ?_⟩
      have : x ∉ keys (rnd rows h w (keys kn) left) := fun hk => nx (by
        obtain ⟨t, et⟩ := tol_pre (rows := rows) (h := h) (w := w) n (kn ++ rnd rows h w (keys kn) left) (lft left (rnd rows h w (keys kn) left))
        rw [et, keys, List.map_append, List.map_append]
        exact List.mem_append_left _ (List.mem_append_right _ hk))
      simpa using this
theorem hit_none {ks : List Q2} {x : Q2} (e : sgn rows h w ks x = none) : ∀ c ∈ dirs, hit rows h w ks x c = false := fun c hc => by
  have := List.find?_eq_none.mp e c hc
  simpa using this
theorem hit_false {ks : List Q2} {x : Q2} {c : Nat} (e : hit rows h w ks x c = false) : bmp rows h w x.1 c = bmp rows h w x.2 c ∧ beh rows h w x c ∉ ks := by
  unfold hit at e
  rw [Bool.or_eq_false_iff] at e
  exact ⟨by simpa using e.1, by simpa using e.2⟩
/-- pairs that lead to such pairs, or together, and never are told apart -/
def ClosedP (rows : List (List Nat)) (h w : Nat) (V : List Q2) : Prop := ∀ x ∈ V, ∀ c ∈ dirs, bmp rows h w x.1 c = bmp rows h w x.2 c ∧ (stp rows h w x.1 c = stp rows h w x.2 c ∨ beh rows h w x c ∈ V)
theorem beh_same {x : Q2} {c : Nat} (e : stp rows h w x.1 c = stp rows h w x.2 c) : (beh rows h w x c).1 = (beh rows h w x c).2 := by
  unfold beh
  split <;> simp [e]
theorem beh_lt {x : Q2} {c : Nat} (e : stp rows h w x.1 c ≠ stp rows h w x.2 c) : ltP (beh rows h w x c).1 (beh rows h w x c).2 := by
  unfold beh
  by_cases q : leP (stp rows h w x.1 c) (stp rows h w x.2 c) = true
  · rw [if_pos q]; exact leP_lt q e
  · rw [if_neg q]
    rcases ltP_con (stp rows h w x.1 c) (stp rows h w x.2 c) with k | k | k
    · exact absurd (lt_leP k) q
    · exact absurd k e
    · exact k
theorem tol_dis {V : List Q2} (cl : ClosedP rows h w V) : ∀ (n : Nat) (kn : List (Q2 × Nat)) (left : List Q2), (∀ x ∈ keys kn, x ∉ V ∧ ltP x.1 x.2) → (∀ x ∈ left, ltP x.1 x.2) → ∀ x ∈ keys (tol rows h w n kn left), x ∉ V
  | 0, kn, _, hk, _, x, hx => (hk x hx).1
  | n + 1, kn, left, hk, hl, x, hx => by
    unfold tol at hx
    split at hx
    · exact (hk x hx).1
    · refine tol_dis cl n _ _ (fun y hy => ?_) (fun y hy => hl y (List.mem_filter.mp hy).1) x hx
      rw [keys, List.map_append] at hy
      rcases List.mem_append.mp hy with q | q
      · exact hk y q
      · obtain ⟨m1, m2⟩ := rnd_keys.mp q
        refine ⟨fun hV => ?_, hl y m1⟩
        obtain ⟨c, hc⟩ := Option.isSome_iff_exists.mp m2
        have hh := List.find?_some hc
        have hd := List.mem_of_find?_eq_some hc
        obtain ⟨b1, b2⟩ := cl y hV c hd
        unfold hit at hh
        rw [b1] at hh
        have hb : beh rows h w y c ∈ keys kn := by simpa using hh
        rcases b2 with b2 | b2
        · have := (hk _ hb).2
          rw [beh_same b2] at this
          exact ltP_irr _ this
        · exact (hk _ hb).1 b2
theorem told_dis {V : List Q2} (cl : ClosedP rows h w V) : ∀ x ∈ V, x ∉ keys (toldOf rows h w) := fun x hx hk =>
  tol_dis cl _ [] _ (fun y hy => by cases hy) (fun y hy => ((mem_prs (asc_cells rows h w)).mp hy).2.2) x hk hx
theorem told_end {x : Q2} (h1 : x ∈ prsOf (cellsOf rows h w)) (h2 : x ∉ keys (toldOf rows h w)) : ∀ c ∈ dirs, bmp rows h w x.1 c = bmp rows h w x.2 c ∧ beh rows h w x c ∉ keys (toldOf rows h w) := fun c hc =>
  hit_false (hit_none (tol_end _ [] _ (ascQ_nd (prs_asc (asc_cells rows h w))) (Nat.lt_succ_self _) x h1 h2) c hc)
theorem stp_open {p : P2} (hp : opn rows h w p = true) (c : Nat) : opn rows h w (stp rows h w p c) = true := by
  unfold stp
  split
  · assumption
  · exact hp
theorem beh_prs {x : Q2} (h1 : x ∈ prsOf (cellsOf rows h w)) {c : Nat} (e : stp rows h w x.1 c ≠ stp rows h w x.2 c) : beh rows h w x c ∈ prsOf (cellsOf rows h w) := by
  have asc := asc_cells rows h w
  obtain ⟨a, b, _⟩ := (mem_prs asc).mp h1
  have oa := mem_cells.mpr (stp_open (mem_cells.mp a) c)
  have ob := mem_cells.mpr (stp_open (mem_cells.mp b) c)
  refine (mem_prs asc).mpr ⟨?_, ?_, beh_lt e⟩
  · unfold beh; split <;> assumption
  · unfold beh; split <;> assumption
/-- no word tells such a pair apart -/
theorem told_same : ∀ (l : List Nat) {x : Q2}, x ∈ prsOf (cellsOf rows h w) → x ∉ keys (toldOf rows h w) → (∀ c ∈ l, c ∈ dirs) → tld rows h w x.1 l = tld rows h w x.2 l
  | [], _, _, _, _ => rfl
  | c :: l, x, h1, h2, hd => by
    obtain ⟨b1, b2⟩ := told_end h1 h2 c (hd c (by simp))
    have hl : ∀ c ∈ l, c ∈ dirs := fun c' hc => hd c' (by simp [hc])
    have e1 : (if stp rows h w x.1 c = x.1 then 48 else 49) = (if stp rows h w x.2 c = x.2 then 48 else 49) := by
      unfold bmp at b1
      by_cases q : stp rows h w x.1 c = x.1
      · rw [decide_eq_true q] at b1
        rw [if_pos q, if_pos (of_decide_eq_true b1.symm)]
      · rw [decide_eq_false q] at b1
        rw [if_neg q, if_neg (of_decide_eq_false b1.symm)]
    unfold tld
    rw [e1]
    congr 1
    by_cases e : stp rows h w x.1 c = stp rows h w x.2 c
    · rw [e]
    · have ih := told_same l (beh_prs h1 e) b2 hl
      unfold beh at ih
      split at ih
      · exact ih
      · exact ih.symm
end
end PC

namespace PC
open PySem L2 PP
open PP.Res (ok exc bad)
/-! ### {k: v for ..}, the keys apart -/
section
variable {α β : Type} [DecidableEq β] {e : β → D} {kf : β → NestedKey}
theorem puts_new (E : KeyEmb e kf) : ∀ (ys ps : List (β × D)), ((ps ++ ys).map (·.1)).Nodup → putsD (asD e ps) (ys.map fun y => D.tup [e y.1, y.2]) = some (asD e (ps ++ ys))
  | [], ps, _ => by simp [putsD]
  | y :: ys, ps, nd => by
    have hn : y.1 ∉ ps.map (·.1) := fun h => by
      rw [List.map_append, List.nodup_append] at nd
      exact nd.2.2 y.1 h y.1 (by simp) rfl
    show ((keyT (e y.1)).bind fun k => putsD (putD (asD e ps) (e y.1) k y.2) (ys.map fun y => D.tup [e y.1, y.2])) = _
    rw [E.key, Option.bind_some]
    have ep : putD (asD e ps) (e y.1) (kf y.1) y.2 = asD e (ps ++ [y]) := by
      unfold putD
      rw [if_neg (by rw [look_as E, Option.isSome_map, find_isSome]; simpa using hn)]
      show asD e ps ++ _ = _
      rw [asD, asD, List.map_append]
      rfl
    rw [ep, puts_new E ys (ps ++ [y]) (by simpa using nd)]
    simp
theorem dc_ev (E : KeyEmb e kf) {it : Sls → Res (List D)} {vs : List Nat} {tg : TgF} {tk tv : Sls → Res D} {ρ : Sls} {emb : α → D} {as : List α} {kk : α → β} {vv : α → D} (hi : it ρ = ok (as.map emb))
    (h : ∀ a ∈ as, ∃ ρ', tg (emb a) (wipeS ρ vs) = ok ρ' ∧ tk ρ' = ok (e (kk a)) ∧ tv ρ' = ok (vv a)) (nd : (as.map kk).Nodup) : mDc it vs tg mYes tk tv ρ = ok (.dct (asD e (as.map fun a => (kk a, vv a)))) := by
  unfold mDc
  rw [hi]
  simp only [Res.ok_bind]
  rw [compL_all (g := fun a => D.tup [e (kk a), vv a]) fun a ha => ?_]
  · simp only [Res.ok_bind]
    have := puts_new E (as.map fun a => (kk a, vv a)) [] (by rw [List.nil_append, List.map_map]; exact nd)
    rw [List.map_map] at this
    have e0 : putsD [] (as.map fun a => D.tup [e (kk a), vv a]) = some (asD e (as.map fun a => (kk a, vv a))) := this
    rw [e0]
    rfl
  · obtain ⟨ρ', h1, h2, h3⟩ := h a ha
    unfold lcStep
    rw [h1, Res.ok_bind]
    show (mYes ρ' >>= fun b => if b then (tk ρ' >>= fun k => tv ρ' >>= fun v => ok (D.tup [k, v])) >>= fun d => ok (some d) else ok none) = _
    show ((tk ρ' >>= fun k => tv ρ' >>= fun v => ok (D.tup [k, v])) >>= fun d => ok (some d)) = _
    rw [h2, Res.ok_bind, h3]
    rfl
end
/-! ### min, max of two cells -/
theorem min_pt (a b : P2) : dMinX [pt a, pt b] = some (pt (if leP a b = true then a else b)) := by
  show mm (fun p q => PySem.W.dataLt q p) (pt a) (pt b) = _
  unfold mm
  rw [toPD_ptQ, toPD_ptQ, Option.bind_some, Option.bind_some, if_pos (by simp [pairOk, qP, alike_qP, PyData.depth, PyData.depthAll, PySem.W.alike, PySem.W.alikeAll, isNone])]
  show some (if PySem.W.dataLt (qP b) (qP a) = true then pt b else pt a) = _
  rw [leP_data']
  cases leP a b <;> rfl
theorem max_pt (a b : P2) : dMaxX [pt a, pt b] = some (pt (if leP b a = true then a else b)) := by
  show mm (fun p q => PySem.W.dataLt p q) (pt a) (pt b) = _
  unfold mm
  rw [toPD_ptQ, toPD_ptQ, Option.bind_some, Option.bind_some, if_pos (by simp [pairOk, qP, alike_qP, PyData.depth, PyData.depthAll, PySem.W.alike, PySem.W.alikeAll, isNone])]
  show some (if PySem.W.dataLt (qP a) (qP b) = true then pt b else pt a) = _
  rw [leP_data']
  cases leP b a <;> rfl
def ord2 (a b : P2) : Q2 := if leP a b = true then (a, b) else (b, a)
theorem ord2_ev {ρ : Sls} {f g : Sls → Res D} {a b : P2} (e1 : f ρ = ok (pt a)) (e2 : g ρ = ok (pt b)) : mTup [mBI dMinX [f, g], mBI dMaxX [f, g]] ρ = ok (pp (ord2 a b)) := by
  refine (tup_ev (args_ev (bi_ev (args_ev e1 (args_ev e2 args0)) (min_pt a b)) (args_ev (bi_ev (args_ev e1 (args_ev e2 args0)) (max_pt a b)) args0))).trans ?_
  unfold ord2
  by_cases h1 : leP a b = true
  · by_cases h2 : leP b a = true
    · have : a = b := by
        by_cases e : a = b
        · exact e
        · exact absurd (ltP_tr _ _ _ (leP_lt h1 e) (leP_lt h2 (Ne.symm e))) (ltP_irr _)
      rw [if_pos h1, if_pos h2, if_pos h1, this]
    · rw [if_pos h1, if_neg h2, if_pos h1]
  · have h2 : leP b a = true := by
      have := leP_tot a b
      rw [Bool.or_eq_true] at this
      exact this.resolve_left h1
    rw [if_neg h1, if_pos h2, if_neg h1]
theorem beh_ord {rows : List (List Nat)} {h w : Nat} (x : Q2) (c : Nat) : beh rows h w x c = ord2 (stp rows h w x.1 c) (stp rows h w x.2 c) := rfl
/-! ### what are pairs -/
section
variable {rows : List (List Nat)} {h w : Nat}
def dp : D → P2
  | .tup [.int a, .int b] => (a, b)
  | _ => z0
def dq : D → Q2
  | .tup [a, b] => (dp a, dp b)
  | _ => (z0, z0)
def twoB : D → Bool
  | .tup [_, _] => true
  | _ => false
def okP (rows : List (List Nat)) (h w : Nat) : D → Bool
  | .tup [a, b] => opnB rows h w a && (opnB rows h w b && !leP (dp b) (dp a))
  | _ => false
def ascA (xs : List Q2) : Bool := (List.range (xs.length - 1)).all fun k => !leQ (xs.getD (k + 1) (z0, z0)) (xs.getD k (z0, z0))
def goodA (rows : List (List Nat)) (h w : Nat) : D → Bool
  | .tup ds => ds.all (okP rows h w) && ascA (ds.map dq)
  | _ => false
/-- proper pairs of open cells -/
def Prop2 (rows : List (List Nat)) (h w : Nat) (x : Q2) : Prop := opn rows h w x.1 = true ∧ opn rows h w x.2 = true ∧ ltP x.1 x.2
theorem okP_some {v : D} (e : okP rows h w v = true) : ∃ x, v = pp x ∧ Prop2 rows h w x := by
  unfold okP at e
  split at e
  · rename_i a b
    rw [Bool.and_eq_true, Bool.and_eq_true] at e
    obtain ⟨e1, e2, e3⟩ := e
    obtain ⟨p, rfl, o1⟩ := opnB_some e1
    obtain ⟨q, rfl, o2⟩ := opnB_some e2
    exact ⟨(p, q), rfl, o1, o2, not_leP.mp e3⟩
  · cases e
theorem okP_pp {x : Q2} : okP rows h w (pp x) = true ↔ Prop2 rows h w x := by
  show (opn rows h w x.1 && (opn rows h w x.2 && !leP x.2 x.1)) = true ↔ _
  rw [Bool.and_eq_true, Bool.and_eq_true, not_leP]
  rfl
theorem all_okP : ∀ {ds : List D}, ds.all (okP rows h w) = true → ∃ xs : List Q2, ds = xs.map pp ∧ ∀ x ∈ xs, Prop2 rows h w x
  | [], _ => ⟨[], rfl, fun _ h => by cases h⟩
  | d :: ds, e => by
    rw [List.all_cons, Bool.and_eq_true] at e
    obtain ⟨x, rfl, px⟩ := okP_some e.1
    obtain ⟨xs, rfl, pxs⟩ := all_okP e.2
    exact ⟨x :: xs, rfl, fun y hy => (List.mem_cons.mp hy).elim (fun z => by rw [z]; exact px) (pxs y)⟩
theorem dq_pps (xs : List Q2) : (xs.map pp).map dq = xs := by
  rw [List.map_map]
  exact List.map_id'' (fun x => rfl) xs
theorem ascA_iff {xs : List Q2} : ascA xs = true ↔ AscQ xs := by
  unfold ascA
  rw [List.all_eq_true]
  constructor
  · intro hh
    have step : ∀ k, k + 1 < xs.length → ltQQ (xs.getD k (z0, z0)) (xs.getD (k + 1) (z0, z0)) := fun k hk => not_leQ.mp (hh k (List.mem_range.mpr (by omega)))
    have all : ∀ d i, i + d + 1 < xs.length → ltQQ (xs.getD i (z0, z0)) (xs.getD (i + d + 1) (z0, z0)) := by
      intro d
      induction d with
      | zero => exact fun i hi => step i hi
      | succ d ih => exact fun i hi => ltQQ_tr _ _ _ (ih i (by omega)) (step (i + d + 1) hi)
    rw [AscQ, List.pairwise_iff_getElem]
    intro i j hi hj hij
    have e : ∀ k (hk : k < xs.length), xs.getD k (z0, z0) = xs[k] := fun k hk => by rw [List.getD_eq_getElem?_getD, List.getElem?_eq_getElem hk]; rfl
    have := all (j - i - 1) i (by omega)
    rw [show i + (j - i - 1) + 1 = j by omega, e i hi, e j hj] at this
    exact this
  · intro hh k hk
    have hk := List.mem_range.mp hk
    have e : ∀ k (hk : k < xs.length), xs.getD k (z0, z0) = xs[k] := fun k hk => by rw [List.getD_eq_getElem?_getD, List.getElem?_eq_getElem hk]; rfl
    refine not_leQ.mpr ?_
    rw [e k (by omega), e (k + 1) (by omega)]
    exact List.pairwise_iff_getElem.mp hh k (k + 1) (by omega) (by omega) (by omega)
theorem goodA_some {v : D} (e : goodA rows h w v = true) : ∃ xs : List Q2, v = .tup (xs.map pp) ∧ (∀ x ∈ xs, Prop2 rows h w x) ∧ AscQ xs := by
  unfold goodA at e
  split at e
  · rw [Bool.and_eq_true] at e
    obtain ⟨xs, rfl, px⟩ := all_okP e.1
    rw [dq_pps] at e
    exact ⟨xs, rfl, px, ascA_iff.mp e.2⟩
  · cases e
theorem goodA_pp {xs : List Q2} (px : ∀ x ∈ xs, Prop2 rows h w x) (a : AscQ xs) : goodA rows h w (.tup (xs.map pp)) = true := by
  show ((xs.map pp).all (okP rows h w) && ascA ((xs.map pp).map dq)) = true
  rw [dq_pps, ascA_iff.mpr a, Bool.and_true, List.all_map, List.all_eq_true]
  exact fun x hx => okP_pp.mpr (px x hx)
/-- a test: a tuple of two -/
theorem two_ev {x : D} (v : Val x) {f : Sls → Res D} {ρ : Sls} (e : f ρ = ok x) : mAndV (mBI dIsi [f, mC (.ty "tuple")]) (mOp2 dEq (mBI dLenX [f]) (mC (.int 2))) ρ = ok (.bl (twoB x)) := by
  have i1 : mBI dIsi [f, mC (.ty "tuple")] ρ = ok (.bl (isTup x)) := bi_ev (args_ev e (args_ev rfl args0)) (isi_tup v)
  cases x with
  | tup ds =>
    have l := i_lenT e
    refine (andV_ev (a := true) i1 fun _ => op2_ev l rfl (dEq_i _ _)).trans ?_
    rw [Bool.true_and]
    congr 2
    match ds with
    | [] => rfl
    | [_] => rfl
    | [_, _] => rfl
    | _ :: _ :: _ :: _ =>
      show decide _ = false
      refine decide_eq_false fun z => ?_
      simp only [List.length_cons] at z
      omega
  | _ => exact (andV_ev (a := false) (b := false) i1 fun z => nomatch z).trans rfl
theorem twoB_some {x : D} (e : twoB x = true) : ∃ a b, x = .tup [a, b] := by
  unfold twoB at e
  split at e
  · exact ⟨_, _, rfl⟩
  · cases e
theorem two_of_okP {x : D} (e : okP rows h w x = true) : twoB x = true := by
  obtain ⟨y, rfl, _⟩ := okP_some e
  rfl
theorem are_pairs_any (R : OkRows rows h w) {v : D} (o : Okv v) : F_are_pairs [mz rows h w, v] = ok (.bl (goodA rows h w v)) := by
  let ρ : Sls := [.fz (mz rows h w), .fz v, .no, .no, .no]
  have it0 : mBI dIsi [(mVar 1), (mC (.ty "tuple"))] ρ = ok (.bl (isTup v)) := bi_ev (args_ev rfl (args_ev rfl args0)) (isi_tup o.val)
  cases o with
  | tup hd hl =>
    rename_i ds
    let ρ : Sls := [.fz (mz rows h w), .fz (.tup ds), .no, .no, .no]
    have c1 : (mOr (mNot (mT (mBI dIsi [(mVar 1), (mC (.ty "tuple"))]))) (mNot (mT (mBI dAll [(mLc (mIt (mVar 1)) [2] (tgName 2) mYes (mAndV (mBI dIsi [(mVar 2), (mC (.ty "tuple"))]) (mOp2 dEq (mBI dLenX [(mVar 2)]) (mC (.int 2)))))])))) ρ = ok (!ds.all twoB) :=
      (or_ev (a := false) (not_ev (a := true) (t_ev it0)) fun _ => not_ev (t_ev (all_lc (ds := ds) (q := twoB) (it_ev rfl rfl) fun x hx => ⟨[.fz (mz rows h w), .fz (.tup ds), .fz x, .no, .no], rfl, two_ev (hd x hx).val rfl⟩))).trans (by simp)
    by_cases h2 : ds.all twoB = true
    · rw [h2] at c1
      have c2 : (mNot (mT (mBI dAll [(mLc (mIt (mVar 1)) [2, 3] (tgTup 2 (tgsCons (tgName 2) (tgsCons (tgName 3) tgsNil))) mYes (mAndV (mCall F_is_open [(mVar 0), (mVar 2)]) (mAndV (mCall F_is_open [(mVar 0), (mVar 3)]) (mOp2 dLtX (mVar 2) (mVar 3)))))]))) ρ = ok (!ds.all (okP rows h w)) := by
        refine not_ev (t_ev (all_lc (ds := ds) (q := okP rows h w) (it_ev rfl rfl) fun x hx => ?_))
        obtain ⟨a, b, rfl⟩ := twoB_some (List.all_eq_true.mp h2 x hx)
        have oa := (hd _ hx).el a (by simp)
        have ob := (hd _ hx).el b (by simp)
        refine ⟨[.fz (mz rows h w), .fz (.tup ds), .fz a, .fz b, .no], rfl, ?_⟩
        refine andV_ev (call_ev (args_ev rfl (args_ev rfl args0)) (is_open_any R oa.val)) fun ha => andV_ev (call_ev (args_ev rfl (args_ev rfl args0)) (is_open_any R ob.val)) fun hb => ?_
        obtain ⟨p, rfl, _⟩ := opnB_some ha
        obtain ⟨q, rfl, _⟩ := opnB_some hb
        exact op2_ev rfl rfl (dLtX_pt p q)
      by_cases h3 : ds.all (okP rows h w) = true
      · rw [h3] at c2
        obtain ⟨xs, rfl, px⟩ := all_okP h3
        refine runF_rt (seq_nx2 (if_nx c1) (seq_nx2 (if_nx c2) (ret_ev ?_)))
        have ln : mOp2 dSub (mBI dLenX [(mVar 1)]) (mC (.int 1)) ρ = ok (.int ((xs.length : Int) - 1)) := by
          have := i_lenT (l := xs.map pp) (f := mVar 1) (ρ := ρ) rfl
          rw [List.length_map] at this
          exact i_sub this rfl
        rw [List.length_map] at hl
        refine (all_lcA (as := List.range (xs.length - 1)) (emb := fun k : Nat => D.int (k : Int)) (q := fun k => !leQ (xs.getD (k + 1) (z0, z0)) (xs.getD k (z0, z0))) (rng_big ln (by omega) (by omega) (by omega)) fun k hk => ?_).trans ?_
        · have hk := List.mem_range.mp hk
          refine ⟨[.fz (mz rows h w), .fz (.tup (xs.map pp)), .no, .no, .fz (.int (k : Int))], rfl, op2_ev (op2_ev rfl rfl (ix_tup (emb := pp) (z0, z0) (by omega))) (op2_ev rfl (i_add rfl rfl) (ix_tup (emb := pp) (k := k + 1) (z0, z0) (by omega))) (dLtX_pp _ _)⟩
        · show _ = ok (D.bl ((xs.map pp).all (okP rows h w) && ascA ((xs.map pp).map dq)))
          rw [h3, dq_pps]
          rfl
      · have h3' : ds.all (okP rows h w) = false := by simpa using h3
        rw [h3'] at c2
        refine runF_rt (seq_nx2 (if_nx c1) (seq_rt ((if_t c2).trans (ret_ev ?_))))
        show ok _ = ok (D.bl (ds.all (okP rows h w) && ascA (ds.map dq)))
        rw [h3']
        rfl
    · have h2' : ds.all twoB = false := by simpa using h2
      rw [h2'] at c1
      have h3' : ds.all (okP rows h w) = false := by
        cases q : ds.all (okP rows h w) with
        | false => rfl
        | true => exact absurd (List.all_eq_true.mpr fun x hx => two_of_okP (List.all_eq_true.mp q x hx)) h2
      refine runF_rt (seq_rt ((if_t c1).trans (ret_ev ?_)))
      show ok _ = ok (D.bl (ds.all (okP rows h w) && ascA (ds.map dq)))
      rw [h3']
      rfl
  | _ => exact runF_rt (seq_rt ((if_t ((or_ev (a := true) (b := true) (not_ev (a := false) (t_ev it0)) fun z => nomatch z).trans rfl)).trans rfl))
end
end PC

namespace PC
open PySem L2 PP
open PP.Res (ok exc bad)
section
variable {rows : List (List Nat)} {h w : Nat}
def form : D := .tup [.str "form"]
/-- a sign at which a pair is told apart, or leads to one that is not there -/
def badS (rows : List (List Nat)) (h w : Nat) (ks : List Q2) (x : Q2) (c : Nat) : Bool := (bmp rows h w x.1 c != bmp rows h w x.2 c) || (!decide (stp rows h w x.1 c = stp rows h w x.2 c) && !decide (beh rows h w x c ∈ ks))
abbrev badX (rows : List (List Nat)) (h w : Nat) (ks : List Q2) (x : Q2) : Option Nat := dirs.find? (badS rows h w ks x)
abbrev ansS (x : Q2) (c : Nat) : D := .tup [.str "sign", pt x.1, pt x.2, sg c]
def resF (rows : List (List Nat)) (h w : Nat) (xs : List Q2) : D := match xs.find? fun x => (badX rows h w xs x).isSome with
  | some x => ansS x ((badX rows h w xs x).getD 0)
  | none => .non
theorem dlru_it {ρ : Sls} : mIt (mC (.str "dlru")) ρ = ok (dirs.map sg) := it_ev (u := tx dirs) (by rw [lit_dlru]; rfl) (items_tx (by decide))
abbrev kT (ks : List Q2) : D := .dct (asD pp (ks.map fun x => (x, D.bl true)))
theorem kT_keys (ks : List Q2) : (ks.map fun x => (x, D.bl true)).map (·.1) = ks := by
  rw [List.map_map]
  exact List.map_id'' (fun x => rfl) ks
theorem kT_not (ks : List Q2) (x : Q2) : dNotInX (pp x) (kT ks) = some (.bl (!decide (x ∈ ks))) := by
  have := not_as embQ x (ks.map fun x => (x, D.bl true))
  rw [kT_keys] at this
  exact this.trans (congrArg (fun b => some (D.bl (!b))) (decide_eq_decide.mpr Iff.rfl))
theorem ne_pt {ρ : Sls} {f g : Sls → Res D} {a b : P2} (e1 : f ρ = ok (pt a)) (e2 : g ρ = ok (pt b)) : mOp2 dNe f g ρ = ok (.bl (!decide (a = b))) := op2_ev e1 e2 (dNe_pt a b)
noncomputable abbrev aBody : Sls → Fl :=
    (sSeq (sPar 6 7 (mCall F_stepped [(mVar 0), (mVar 3), (mVar 5)]) (mCall F_stepped [(mVar 0), (mVar 4), (mVar 5)]))
    (sSeq (sSet 8 (mAndV (mOp2 dNe (mVar 6) (mVar 7)) (mOp2 dNotInX (mTup [(mBI dMinX [(mVar 6), (mVar 7)]), (mBI dMaxX [(mVar 6), (mVar 7)])]) (mVar 2))))
    (sIf (mOr (mT (mOp2 dNe (mOp2 dEq (mVar 6) (mVar 3)) (mOp2 dEq (mVar 7) (mVar 4)))) (mT (mVar 8))) (sRet (mTup [(mC (.str "sign")), (mVar 3), (mVar 4), (mVar 5)])) sNx)))
abbrev aS (rows : List (List Nat)) (h w : Nat) (v : D) (ks : List Q2) (s3 s4 s5 s6 s7 s8 : Sl) : Sls := [.fz (mz rows h w), .fz v, .fz (kT ks), s3, s4, s5, s6, s7, s8, .no]
theorem a_inner (R : OkRows rows h w) (v : D) (ks : List Q2) (x : Q2) (s5 s6 s7 s8 : Sl) :
    ((badX rows h w ks x).isSome = true → sFor (mIt (mC (.str "dlru"))) (tgName 5) aBody (aS rows h w v ks (.fz (pt x.1)) (.fz (pt x.2)) s5 s6 s7 s8) = .rt (ansS x ((badX rows h w ks x).getD 0))) ∧
    ((badX rows h w ks x).isSome = false → ∃ s5' s6' s7' s8', sFor (mIt (mC (.str "dlru"))) (tgName 5) aBody (aS rows h w v ks (.fz (pt x.1)) (.fz (pt x.2)) s5 s6 s7 s8) = .nx (aS rows h w v ks (.fz (pt x.1)) (.fz (pt x.2)) s5' s6' s7' s8')) := by
  have key := forL_first (as := dirs) (emb := sg) (bad := badS rows h w ks x) (r := ansS x) (I := fun ρ => ∃ s5 s6 s7 s8, ρ = aS rows h w v ks (.fz (pt x.1)) (.fz (pt x.2)) s5 s6 s7 s8)
    (step := fun y ρ => thenF (tgName 5 y ρ).quiet ρ aBody) (ρ := aS rows h w v ks (.fz (pt x.1)) (.fz (pt x.2)) s5 s6 s7 s8) ⟨_, _, _, _, rfl⟩ (fun c hc ρ ⟨s5, s6, s7, s8, e⟩ => by
      subst e
      have hd := dirs_dir c hc
      let a := stp rows h w x.1 c
      let b := stp rows h w x.2 c
      let ρ2 := aS rows h w v ks (.fz (pt x.1)) (.fz (pt x.2)) (.fz (sg c)) (.fz (pt a)) (.fz (pt b)) s8
      have e1 : sPar 6 7 (mCall F_stepped [(mVar 0), (mVar 3), (mVar 5)]) (mCall F_stepped [(mVar 0), (mVar 4), (mVar 5)]) (aS rows h w v ks (.fz (pt x.1)) (.fz (pt x.2)) (.fz (sg c)) s6 s7 s8) = .nx ρ2 :=
        par_ev (call_ev (args_ev rfl (args_ev rfl (args_ev rfl args0))) (stepped_ok R x.1 hd)) (call_ev (args_ev rfl (args_ev rfl (args_ev rfl args0))) (stepped_ok R x.2 hd))
      let ap : Bool := !decide (a = b) && !decide (beh rows h w x c ∈ ks)
      let ρ3 := aS rows h w v ks (.fz (pt x.1)) (.fz (pt x.2)) (.fz (sg c)) (.fz (pt a)) (.fz (pt b)) (.fz (.bl ap))
      have e2 : sSet 8 (mAndV (mOp2 dNe (mVar 6) (mVar 7)) (mOp2 dNotInX (mTup [(mBI dMinX [(mVar 6), (mVar 7)]), (mBI dMaxX [(mVar 6), (mVar 7)])]) (mVar 2))) ρ2 = .nx ρ3 :=
        set_ev (andV_ev (ne_pt rfl rfl) fun _ => op2_ev (ord2_ev rfl rfl) rfl (kT_not ks _))
      have c3 : (mOr (mT (mOp2 dNe (mOp2 dEq (mVar 6) (mVar 3)) (mOp2 dEq (mVar 7) (mVar 4)))) (mT (mVar 8))) ρ3 = ok (badS rows h w ks x c) :=
        or_ev (bne_ev (op2_ev rfl rfl (dEq_pt _ _)) (op2_ev rfl rfl (dEq_pt _ _))) fun _ => t_ev rfl
      refine ⟨fun hb => ?_, fun hb => ⟨ρ3, ?_, _, _, _, _, rfl⟩⟩
      · rw [hb] at c3
        exact seq_nx2 e1 (seq_nx2 e2 ((if_t c3).trans (ret_ev rfl)))
      · rw [hb] at c3
        exact seq_nx2 e1 (seq_nx2 e2 (if_nx c3)))
  rcases key with ⟨c, f, e⟩ | ⟨f, ρ', e, s5', s6', s7', s8', er⟩
  · refine ⟨fun _ => ?_, fun z => ?_⟩
    · rw [badX, f]
      exact (for_ev dlru_it).trans e
    · rw [badX, f] at z; cases z
  · refine ⟨fun z => ?_, fun _ => ⟨s5', s6', s7', s8', ?_⟩⟩
    · rw [badX, f] at z; cases z
    · subst er
      exact (for_ev dlru_it).trans e
theorem alike_fault_any (R : OkRows rows h w) {v : D} (o : Okv v) : F_alike_fault [mz rows h w, v] = ok (if goodA rows h w v = true then resF rows h w ((match v with | .tup ds => ds | _ => []).map dq) else form) := by
  have c1 : mNot (mT (mCall F_are_pairs [(mVar 0), (mVar 1)])) (startS 10 [mz rows h w, v]) = ok (!goodA rows h w v) := not_ev (t_ev (call_ev (args_ev rfl (args_ev rfl args0)) (are_pairs_any R o)))
  by_cases g : goodA rows h w v = true
  · rw [g] at c1
    rw [if_pos g]
    obtain ⟨xs, rfl, px, asc⟩ := goodA_some g
    rw [dq_pps]
    have nd := ascQ_nd asc
    have e2 : sSet 2 (mDc (mIt (mVar 1)) [9] (tgName 9) mYes (mVar 9) (mC (.bl true))) (startS 10 [mz rows h w, .tup (xs.map pp)]) = .nx (aS rows h w (.tup (xs.map pp)) xs .no .no .no .no .no .no) :=
      set_ev (dc_ev embQ (as := xs) (emb := pp) (kk := fun x => x) (vv := fun _ => D.bl true) (it_ev rfl rfl) (fun x hx => ⟨[.fz (mz rows h w), .fz (.tup (xs.map pp)), .no, .no, .no, .no, .no, .no, .no, .fz (pp x)], rfl, rfl, rfl⟩) (by simpa using nd))
    have key := forL_first (as := xs) (emb := pp) (bad := fun x => (badX rows h w xs x).isSome) (r := fun x => ansS x ((badX rows h w xs x).getD 0)) (I := fun ρ => ∃ s3 s4 s5 s6 s7 s8, ρ = aS rows h w (.tup (xs.map pp)) xs s3 s4 s5 s6 s7 s8)
      (step := fun y ρ => thenF (tgTup 2 (tgsCons (tgName 3) (tgsCons (tgName 4) tgsNil)) y ρ).quiet ρ (sFor (mIt (mC (.str "dlru"))) (tgName 5) aBody)) (ρ := aS rows h w (.tup (xs.map pp)) xs .no .no .no .no .no .no) ⟨_, _, _, _, _, _, rfl⟩ (fun x hx ρ ⟨s3, s4, s5, s6, s7, s8, e⟩ => by
        subst e
        obtain ⟨i1, i2⟩ := a_inner R (.tup (xs.map pp)) xs x s5 s6 s7 s8
        refine ⟨fun hb => i1 hb, fun hb => ?_⟩
        obtain ⟨s5', s6', s7', s8', e⟩ := i2 hb
        exact ⟨_, e, _, _, _, _, _, _, rfl⟩)
    unfold resF
    rcases key with ⟨x, f, e⟩ | ⟨f, ρ', e, er⟩
    · rw [f]
      exact runF_rt (seq_nx2 (if_nx c1) (seq_nx2 e2 (seq_rt ((for_ev (it_ev rfl rfl)).trans e))))
    · rw [f]
      exact runF_rt (seq_nx2 (if_nx c1) (seq_nx2 e2 (seq_nx2 ((for_ev (it_ev rfl rfl)).trans e) rfl)))
  · have g' : goodA rows h w v = false := by simpa using g
    rw [g'] at c1
    rw [if_neg g]
    exact runF_rt (seq_rt ((if_t c1).trans rfl))
end
end PC

namespace PC
open PySem L2 PP
open PP.Res (ok exc bad)
section
variable {rows : List (List Nat)} {h w : Nat}
/-! ### the law's look at alike pairs -/
noncomputable abbrev dBody : Sls → Fl :=
    (sSeq (sSet 6 (mCall F__law_behind [(mVar 0), (mVar 4), (mVar 5)]))
    (sSeq (sSet 7 (mLc (mIt (mVar 4)) [10] (tgName 10) mYes (mOp2 dEq (mCall F__law_step [(mVar 0), (mVar 10), (mVar 5)]) (mVar 10))))
    (sIf (mOr (mT (mOp2 dNe (mOp2 dIxX (mVar 7) (mC (.int 0))) (mOp2 dIxX (mVar 7) (mC (.int 1))))) (mAnd (mT (mOp2 dNe (mOp2 dIxX (mVar 6) (mC (.int 0))) (mOp2 dIxX (mVar 6) (mC (.int 1))))) (mT (mOp2 dNotInX (mVar 6) (mVarB 3))))) (sRet (mTup [(mC (.str "sign")), (mOp2 dIxX (mVar 4) (mC (.int 0))), (mOp2 dIxX (mVar 4) (mC (.int 1))), (mVar 5)])) sNx)))
abbrev cD (rows : List (List Nat)) (h w : Nat) : D := tp (cellsOf rows h w)
abbrev dS (rows : List (List Nat)) (h w : Nat) (v : D) (ks : List Q2) (s4 s5 s6 s7 : Sl) : Sls := [.fz (rowsD rows), .fz (cD rows h w), .fz v, .ow (kT ks), s4, s5, s6, s7, .no, .no, .no]
theorem d_inner (R : OkRows rows h w) (v : D) (ks : List Q2) (x : Q2) (s5 s6 s7 : Sl) :
    ((badX rows h w ks x).isSome = true → sFor (mIt (mC (.str "dlru"))) (tgName 5) dBody (dS rows h w v ks (.fz (pp x)) s5 s6 s7) = .rt (ansS x ((badX rows h w ks x).getD 0))) ∧
    ((badX rows h w ks x).isSome = false → ∃ s5' s6' s7', sFor (mIt (mC (.str "dlru"))) (tgName 5) dBody (dS rows h w v ks (.fz (pp x)) s5 s6 s7) = .nx (dS rows h w v ks (.fz (pp x)) s5' s6' s7')) := by
  have key := forL_first (as := dirs) (emb := sg) (bad := badS rows h w ks x) (r := ansS x) (I := fun ρ => ∃ s5 s6 s7, ρ = dS rows h w v ks (.fz (pp x)) s5 s6 s7)
    (step := fun y ρ => thenF (tgName 5 y ρ).quiet ρ dBody) (ρ := dS rows h w v ks (.fz (pp x)) s5 s6 s7) ⟨_, _, _, rfl⟩ (fun c hc ρ ⟨s5, s6, s7, e⟩ => by
      subst e
      have hd := dirs_dir c hc
      let bl : D := .lst ([x.1, x.2].map fun p => D.bl (bmp rows h w p c))
      let ρ2 := dS rows h w v ks (.fz (pp x)) (.fz (sg c)) (.fz (pp (beh rows h w x c))) s7
      let ρ3 := dS rows h w v ks (.fz (pp x)) (.fz (sg c)) (.fz (pp (beh rows h w x c))) (.fz bl)
      have e1 : sSet 6 (mCall F__law_behind [(mVar 0), (mVar 4), (mVar 5)]) (dS rows h w v ks (.fz (pp x)) (.fz (sg c)) s6 s7) = .nx ρ2 := set_ev (call_ev (args_ev rfl (args_ev rfl (args_ev rfl args0))) (behind_ok R x hd))
      have e2 : sSet 7 (mLc (mIt (mVar 4)) [10] (tgName 10) mYes (mOp2 dEq (mCall F__law_step [(mVar 0), (mVar 10), (mVar 5)]) (mVar 10))) ρ2 = .nx ρ3 :=
        set_ev (lc_ev0 (as := [x.1, x.2]) (emb := pt) (g := fun p => D.bl (bmp rows h w p c)) (it_ev (u := pp x) rfl rfl) fun p hp => ⟨[.fz (rowsD rows), .fz (cD rows h w), .fz v, .ow (kT ks), .fz (pp x), .fz (sg c), .fz (pp (beh rows h w x c)), s7, .no, .no, .fz (pt p)], rfl, op2_ev (call_ev (args_ev rfl (args_ev rfl (args_ev rfl args0))) (step_ok R p hd)) rfl (dEq_pt _ _)⟩)
      have eb : decide ((beh rows h w x c).1 = (beh rows h w x c).2) = decide (stp rows h w x.1 c = stp rows h w x.2 c) := by
        rw [decide_eq_decide]
        refine ⟨fun z => ?_, beh_same⟩
        exact Classical.byContradiction fun q => by
          have := beh_lt q
          rw [z] at this
          exact ltP_irr _ this
      have c3 : (mOr (mT (mOp2 dNe (mOp2 dIxX (mVar 7) (mC (.int 0))) (mOp2 dIxX (mVar 7) (mC (.int 1))))) (mAnd (mT (mOp2 dNe (mOp2 dIxX (mVar 6) (mC (.int 0))) (mOp2 dIxX (mVar 6) (mC (.int 1))))) (mT (mOp2 dNotInX (mVar 6) (mVarB 3))))) ρ3 = ok (badS rows h w ks x c) := by
        unfold badS
        rw [← eb]
        exact or_ev (bne_ev (op2_ev rfl rfl rfl) (op2_ev rfl rfl rfl)) fun _ => and_ev (t_ev (ne_pt (op2_ev rfl rfl rfl) (op2_ev rfl rfl rfl))) fun _ => t_ev (op2_ev rfl rfl (kT_not ks _))
      refine ⟨fun hb => ?_, fun hb => ⟨ρ3, ?_, _, _, _, rfl⟩⟩
      · rw [hb] at c3
        exact seq_nx2 e1 (seq_nx2 e2 ((if_t c3).trans (ret_ev (tup_ev (args_ev rfl (args_ev (op2_ev rfl rfl rfl) (args_ev (op2_ev rfl rfl rfl) (args_ev rfl args0))))))))
      · rw [hb] at c3
        exact seq_nx2 e1 (seq_nx2 e2 (if_nx c3)))
  rcases key with ⟨c, f, e⟩ | ⟨f, ρ', e, s5', s6', s7', er⟩
  · refine ⟨fun _ => ?_, fun z => ?_⟩
    · rw [badX, f]
      exact (for_ev dlru_it).trans e
    · rw [badX, f] at z; cases z
  · refine ⟨fun z => ?_, fun _ => ⟨s5', s6', s7', ?_⟩⟩
    · rw [badX, f] at z; cases z
    · subst er
      exact (for_ev dlru_it).trans e
theorem put_T2 {ρ : Sls} {i : Nat} {f g : Sls → Res D} {x : Q2} {ks : List Q2} (hs : ρ[i]? = some (.ow (kT ks))) (hf : f ρ = ok (pp x)) (hg : g ρ = ok (.bl true)) (hn : x ∉ ks) (hl : ks.length ≤ 1000000) :
    sPut i f g ρ = .nx (ρ.set i (.ow (kT (ks ++ [x])))) := by
  have := put_as embQ (a := x) (v := .bl true) (ps := ks.map fun x => (x, D.bl true)) hs hf hg (by rw [kT_keys]; exact hn) (by rw [List.length_map]; exact hl)
  rw [this]
  show _ = Fl.nx (ρ.set i (.ow (.dct (asD pp ((ks ++ [x]).map fun x => (x, D.bl true))))))
  rw [List.map_append]
  rfl
theorem put_all (v : D) : ∀ (l ks : List Q2) (s4 : Sl), (ks ++ l).Nodup → ks.length + l.length ≤ 100000 → ∃ s4', forL (fun y ρ => thenF (tgName 4 y ρ).quiet ρ (sPut 3 (mVar 4) (mC (.bl true)))) (l.map pp) (dS rows h w v ks s4 .no .no .no) = .nx (dS rows h w v (ks ++ l) s4' .no .no .no)
  | [], ks, s4, _, _ => ⟨s4, by simp [forL]⟩
  | x :: l, ks, s4, nd, hl => by
    rw [List.length_cons] at hl
    have hn : x ∉ ks := fun hx => by
      rw [List.nodup_append] at nd
      exact nd.2.2 x hx x (by simp) rfl
    have e : sPut 3 (mVar 4) (mC (.bl true)) (dS rows h w v ks (.fz (pp x)) .no .no .no) = .nx (dS rows h w v (ks ++ [x]) (.fz (pp x)) .no .no .no) := (put_T2 rfl rfl rfl hn (by omega)).trans rfl
    obtain ⟨s4', e2⟩ := put_all v l (ks ++ [x]) (.fz (pp x)) (by simpa using nd) (by simp; omega)
    refine ⟨s4', ?_⟩
    have e' : (fun y ρ => thenF (tgName 4 y ρ).quiet ρ (sPut 3 (mVar 4) (mC (.bl true)))) (pp x) (dS rows h w v ks s4 .no .no .no) = .nx (dS rows h w v (ks ++ [x]) (.fz (pp x)) .no .no .no) := e
    rw [List.map_cons, forL_nx e', e2, List.append_assoc]
    rfl
theorem law_due_any (R : OkRows rows h w) {v : D} (o : Okv v) : F__law_due [rowsD rows, cD rows h w, v] = ok (if goodA rows h w v = true then resF rows h w ((match v with | .tup ds => ds | _ => []).map dq) else form) := by
  have it0 : mBI dIsi [(mVar 2), (mC (.ty "tuple"))] (startS 11 [rowsD rows, cD rows h w, v]) = ok (.bl (isTup v)) := bi_ev (args_ev rfl (args_ev rfl args0)) (isi_tup o.val)
  cases o with
  | tup hd hl =>
    rename_i ds
    let ρ : Sls := startS 11 [rowsD rows, cD rows h w, .tup ds]
    have c1 : (mOr (mNot (mT (mBI dIsi [(mVar 2), (mC (.ty "tuple"))]))) (mNot (mT (mBI dAll [(mLc (mIt (mVar 2)) [8] (tgName 8) mYes (mAndV (mBI dIsi [(mVar 8), (mC (.ty "tuple"))]) (mOp2 dEq (mBI dLenX [(mVar 8)]) (mC (.int 2)))))])))) ρ = ok (!ds.all twoB) :=
      (or_ev (a := false) (not_ev (a := true) (t_ev it0)) fun _ => not_ev (t_ev (all_lc (ds := ds) (q := twoB) (it_ev rfl rfl) fun x hx => ⟨[.fz (rowsD rows), .fz (cD rows h w), .fz (.tup ds), .no, .no, .no, .no, .no, .fz x, .no, .no], rfl, two_ev (hd x hx).val rfl⟩))).trans (by simp)
    by_cases h2 : ds.all twoB = true
    · rw [h2] at c1
      have c2 : (mNot (mT (mBI dAll [(mLc (mIt (mVar 2)) [8] (tgName 8) mYes (mAndV (mCall F__law_is_cell [(mVar 1), (mOp2 dIxX (mVar 8) (mC (.int 0)))]) (mAndV (mCall F__law_is_cell [(mVar 1), (mOp2 dIxX (mVar 8) (mC (.int 1)))]) (mOp2 dLtX (mOp2 dIxX (mVar 8) (mC (.int 0))) (mOp2 dIxX (mVar 8) (mC (.int 1)))))))]))) ρ = ok (!ds.all (okP rows h w)) := by
        refine not_ev (t_ev (all_lc (ds := ds) (q := okP rows h w) (it_ev rfl rfl) fun x hx => ?_))
        obtain ⟨a, b, rfl⟩ := twoB_some (List.all_eq_true.mp h2 x hx)
        have oa := (hd _ hx).el a (by simp)
        have ob := (hd _ hx).el b (by simp)
        refine ⟨[.fz (rowsD rows), .fz (cD rows h w), .fz (.tup ds), .no, .no, .no, .no, .no, .fz (.tup [a, b]), .no, .no], rfl, ?_⟩
        refine andV_ev (call_ev (args_ev rfl (args_ev (op2_ev rfl rfl rfl) args0)) (law_is_cell_any oa.val)) fun ha => andV_ev (call_ev (args_ev rfl (args_ev (op2_ev rfl rfl rfl) args0)) (law_is_cell_any ob.val)) fun hb => ?_
        obtain ⟨p, rfl, _⟩ := opnB_some ha
        obtain ⟨q, rfl, _⟩ := opnB_some hb
        exact op2_ev (op2_ev rfl rfl rfl) (op2_ev rfl rfl rfl) (dLtX_pt p q)
      by_cases h3 : ds.all (okP rows h w) = true
      · rw [h3] at c2
        obtain ⟨xs, rfl, px⟩ := all_okP h3
        rw [List.length_map] at hl
        have ln : mOp2 dSub (mBI dLenX [(mVar 2)]) (mC (.int 1)) ρ = ok (.int ((xs.length : Int) - 1)) := by
          have := i_lenT (l := xs.map pp) (f := mVar 2) (ρ := ρ) rfl
          rw [List.length_map] at this
          exact i_sub this rfl
        have c3 : (mT (mBI dAny [(mLc (mRng rng1 [(mOp2 dSub (mBI dLenX [(mVar 2)]) (mC (.int 1)))]) [9] (tgName 9) mYes (mOp2 dGeX (mOp2 dIxX (mVar 2) (mVar 9)) (mOp2 dIxX (mVar 2) (mOp2 dAdd (mVar 9) (mC (.int 1))))))])) ρ = ok (!ascA xs) := by
          refine (t_ev (any_lcA (as := List.range (xs.length - 1)) (emb := fun k : Nat => D.int (k : Int)) (q := fun k => leQ (xs.getD (k + 1) (z0, z0)) (xs.getD k (z0, z0))) (rng_big ln (by omega) (by omega) (by omega)) fun k hk => ?_)).trans ?_
          · have hk := List.mem_range.mp hk
            refine ⟨[.fz (rowsD rows), .fz (cD rows h w), .fz (.tup (xs.map pp)), .no, .no, .no, .no, .no, .no, .fz (.int (k : Int)), .no], rfl, op2_ev (op2_ev rfl rfl (ix_tup (emb := pp) (z0, z0) (by omega))) (op2_ev rfl (i_add rfl rfl) (ix_tup (emb := pp) (k := k + 1) (z0, z0) (by omega))) (dGeX_pp _ _)⟩
          · unfold ascA
            congr 1
            rw [Bool.eq_iff_iff]
            simp [List.any_eq_true, List.all_eq_true]
        by_cases h4 : ascA xs = true
        · rw [h4] at c3
          have asc := ascA_iff.mp h4
          have nd := ascQ_nd asc
          have gA : goodA rows h w (.tup (xs.map pp)) = true := goodA_pp px asc
          rw [if_pos gA]
          show _ = ok (resF rows h w ((xs.map pp).map dq))
          rw [dq_pps]
          have e3 : sSetO 3 (mC (.dct [])) ρ = .nx (dS rows h w (.tup (xs.map pp)) [] .no .no .no .no) := rfl
          obtain ⟨t4, e4⟩ := put_all (rows := rows) (h := h) (w := w) (.tup (xs.map pp)) xs [] .no (by simpa using nd) (by simp; omega)
          rw [List.nil_append] at e4
          have key := forL_first (as := xs) (emb := pp) (bad := fun x => (badX rows h w xs x).isSome) (r := fun x => ansS x ((badX rows h w xs x).getD 0)) (I := fun ρ => ∃ s4 s5 s6 s7, ρ = dS rows h w (.tup (xs.map pp)) xs s4 s5 s6 s7)
            (step := fun y ρ => thenF (tgName 4 y ρ).quiet ρ (sFor (mIt (mC (.str "dlru"))) (tgName 5) dBody)) (ρ := dS rows h w (.tup (xs.map pp)) xs t4 .no .no .no) ⟨_, _, _, _, rfl⟩ (fun x hx ρ ⟨s4, s5, s6, s7, e⟩ => by
              subst e
              obtain ⟨i1, i2⟩ := d_inner R (.tup (xs.map pp)) xs x s5 s6 s7
              refine ⟨fun hb => i1 hb, fun hb => ?_⟩
              obtain ⟨s5', s6', s7', e⟩ := i2 hb
              exact ⟨_, e, _, _, _, _, rfl⟩)
          unfold resF
          rcases key with ⟨x, f, e⟩ | ⟨f, ρ', e, er⟩
          · rw [f]
            exact runF_rt (seq_nx2 (if_nx c1) (seq_nx2 (if_nx c2) (seq_nx2 (if_nx c3) (seq_nx2 e3 (seq_nx2 ((for_ev (it_ev rfl rfl)).trans e4) (seq_rt ((for_ev (it_ev rfl rfl)).trans e)))))))
          · rw [f]
            exact runF_rt (seq_nx2 (if_nx c1) (seq_nx2 (if_nx c2) (seq_nx2 (if_nx c3) (seq_nx2 e3 (seq_nx2 ((for_ev (it_ev rfl rfl)).trans e4) (seq_nx2 ((for_ev (it_ev rfl rfl)).trans e) rfl))))))
        · have h4' : ascA xs = false := by simpa using h4
          rw [h4'] at c3
          have gA : goodA rows h w (.tup (xs.map pp)) = false := by
            show ((xs.map pp).all (okP rows h w) && ascA ((xs.map pp).map dq)) = false
            rw [dq_pps, h4', Bool.and_false]
          rw [gA, if_neg Bool.false_ne_true]
          exact runF_rt (seq_nx2 (if_nx c1) (seq_nx2 (if_nx c2) (seq_rt ((if_t c3).trans rfl))))
      · have h3' : ds.all (okP rows h w) = false := by simpa using h3
        rw [h3'] at c2
        have gA : goodA rows h w (.tup ds) = false := by
          show (ds.all (okP rows h w) && ascA (ds.map dq)) = false
          rw [h3', Bool.false_and]
        rw [gA, if_neg Bool.false_ne_true]
        exact runF_rt (seq_nx2 (if_nx c1) (seq_rt ((if_t c2).trans rfl)))
    · have h2' : ds.all twoB = false := by simpa using h2
      rw [h2'] at c1
      have h3' : ds.all (okP rows h w) = false := by
        cases q : ds.all (okP rows h w) with
        | false => rfl
        | true => exact absurd (List.all_eq_true.mpr fun x hx => two_of_okP (List.all_eq_true.mp q x hx)) h2
      have gA : goodA rows h w (.tup ds) = false := by
        show (ds.all (okP rows h w) && ascA (ds.map dq)) = false
        rw [h3', Bool.false_and]
      rw [gA, if_neg Bool.false_ne_true]
      exact runF_rt (seq_rt ((if_t c1).trans rfl))
  | _ => exact runF_rt (seq_rt ((if_t ((or_ev (a := true) (b := true) (not_ev (a := false) (t_ev it0)) fun z => nomatch z).trans rfl)).trans rfl))
end
end PC

namespace PC
open PySem L2 PP
open PP.Res (ok exc bad)
/-! ### what bends: only that it is data again -/
def Ev (f : Sls → Res D) (ρ : Sls) : Prop := ∃ d, f ρ = ok d ∧ Okv d
def EvT (m : Nat) (f : Sls → Res D) (ρ : Sls) : Prop := ∃ ds, f ρ = ok (.tup ds) ∧ (∀ x ∈ ds, Okv x) ∧ ds.length ≤ m
def EvL (m : Nat) (f : Sls → Res D) (ρ : Sls) : Prop := ∃ ds, f ρ = ok (.lst ds) ∧ (∀ x ∈ ds, Okv x) ∧ ds.length ≤ m
section
variable {f g : Sls → Res D} {ρ : Sls} {m n : Nat}
theorem EvT.ev (e : EvT m f ρ) (hm : m ≤ 1000 := by first | decide | (simp; done)) : Ev f ρ := by
  obtain ⟨ds, e1, e2, e3⟩ := e
  exact ⟨_, e1, .tup e2 (by omega)⟩
theorem EvL.ev (e : EvL m f ρ) (hm : m ≤ 1000 := by first | decide | (simp; done)) : Ev f ρ := by
  obtain ⟨ds, e1, e2, e3⟩ := e
  exact ⟨_, e1, .lst e2 (by omega)⟩
theorem EvT.list (e : EvT m f ρ) (hm : m ≤ 1000 := by first | decide | (simp; done)) : Ev (mBI dList [f]) ρ := by
  obtain ⟨ds, e1, e2, e3⟩ := e
  exact ⟨.lst ds, bi1 e1 rfl, .lst e2 (by omega)⟩
theorem EvL.tup (e : EvL m f ρ) : EvT m (mBI dTuple [f]) ρ := by
  obtain ⟨ds, e1, e2, e3⟩ := e
  exact ⟨ds, bi1 e1 rfl, e2, e3⟩
theorem EvT.rev (e : EvT m f ρ) : EvT m (mOp1 dRevT f) ρ := by
  obtain ⟨ds, e1, e2, e3⟩ := e
  exact ⟨ds.reverse, op1_ev (a := .tup ds) e1 rfl, fun x hx => e2 x (List.mem_reverse.mp hx), by rw [List.length_reverse]; exact e3⟩
theorem EvT.add (e : EvT m f ρ) (e' : EvT n g ρ) (hm : m + n ≤ 100000 := by first | decide | (simp; done)) : EvT (m + n) (mOp2 dAdd f g) ρ := by
  obtain ⟨ds, e1, e2, e3⟩ := e
  obtain ⟨es, g1, g2, g3⟩ := e'
  exact ⟨ds ++ es, op2_ev e1 g1 (dAdd_tup (by omega)), fun x hx => (List.mem_append.mp hx).elim (e2 x) (g2 x), by rw [List.length_append]; omega⟩
theorem EvL.add (e : EvL m f ρ) (e' : EvL n g ρ) (hm : m + n ≤ 100000 := by first | decide | (simp; done)) : EvL (m + n) (mOp2 dAdd f g) ρ := by
  obtain ⟨ds, e1, e2, e3⟩ := e
  obtain ⟨es, g1, g2, g3⟩ := e'
  exact ⟨ds ++ es, op2_ev e1 g1 (dAdd_lst (by omega)), fun x hx => (List.mem_append.mp hx).elim (e2 x) (g2 x), by rw [List.length_append]; omega⟩
theorem cutD_mem {l : List D} {a b : Option Int} {x : D} (hx : x ∈ cutD l a b) : x ∈ l := by
  unfold cutD at hx
  exact List.mem_of_mem_drop (List.mem_of_mem_take hx)
theorem cutD_len {l : List D} {a b : Option Int} : (cutD l a b).length ≤ l.length := by
  unfold cutD
  rw [List.length_take, List.length_drop]
  omega
theorem EvT.sl {lo hi : Sls → Res (Option Int)} {a b : Option Int} (e : EvT m f ρ) (h1 : lo ρ = ok a) (h2 : hi ρ = ok b) : EvT m (mSl dSl f lo hi) ρ := by
  obtain ⟨ds, e1, e2, e3⟩ := e
  refine ⟨cutD ds a b, ?_, fun x hx => e2 x (cutD_mem hx), Nat.le_trans cutD_len e3⟩
  unfold mSl
  rw [e1, Res.ok_bind, h1, Res.ok_bind, h2]
  rfl
theorem part_i {i : Int} (e : f ρ = ok (.int i)) : mPart f ρ = ok (some i) := by
  unfold mPart
  rw [e]
  rfl
theorem part_n : mNoPart ρ = ok none := rfl
theorem Ev.int {i : Int} : Ev (mC (.int i)) ρ := ⟨_, rfl, .int i⟩
theorem Ev.non : Ev (mC .non) ρ := ⟨_, rfl, .non⟩
theorem Ev.bl {b : Bool} : Ev (mC (.bl b)) ρ := ⟨_, rfl, .bl b⟩
def EvA (fs : List (Sls → Res D)) (ρ : Sls) : Prop := ∃ ds, mArgs fs ρ = ok ds ∧ (∀ x ∈ ds, Okv x) ∧ ds.length = fs.length
theorem EvA.nil : EvA [] ρ := ⟨[], rfl, fun _ h => by simp at h, rfl⟩
theorem EvA.cons {fs : List (Sls → Res D)} (e : Ev f ρ) (es : EvA fs ρ) : EvA (f :: fs) ρ := by
  obtain ⟨d, e1, e2⟩ := e
  obtain ⟨ds, g1, g2, g3⟩ := es
  exact ⟨d :: ds, args_ev e1 g1, all_cons e2 g2, by rw [List.length_cons, List.length_cons, g3]⟩
theorem EvA.tup {fs : List (Sls → Res D)} (es : EvA fs ρ) : EvT fs.length (mTup fs) ρ := by
  obtain ⟨ds, g1, g2, g3⟩ := es
  exact ⟨ds, tup_ev g1, g2, Nat.le_of_eq g3⟩
theorem EvA.lst {fs : List (Sls → Res D)} (es : EvA fs ρ) : EvL fs.length (mLst fs) ρ := by
  obtain ⟨ds, g1, g2, g3⟩ := es
  exact ⟨ds, lst_ev g1, g2, Nat.le_of_eq g3⟩
theorem lc_ex {it : Sls → Res (List D)} {vs : List Nat} {tg : TgF} {te : Sls → Res D} {ds : List D} (hi : it ρ = ok ds) (hl : ds.length ≤ m) (hh : ∀ a ∈ ds, ∃ ρ', tg a (wipeS ρ vs) = ok ρ' ∧ Ev te ρ') : EvL m (mLc it vs tg mYes te) ρ := by
  have key : ∀ ds : List D, (∀ a ∈ ds, ∃ ρ', tg a (wipeS ρ vs) = ok ρ' ∧ Ev te ρ') → ∃ ys, compL (lcStep vs tg mYes te ρ) ds = ok ys ∧ (∀ y ∈ ys, Okv y) ∧ ys.length = ds.length := by
    intro ds
    induction ds with
    | nil => exact fun _ => ⟨[], rfl, fun _ h => by simp at h, rfl⟩
    | cons a ds ih =>
      intro hh
      obtain ⟨ρ', e1, d, e2, e3⟩ := hh a (by simp)
      obtain ⟨ys, g1, g2, g3⟩ := ih fun x hx => hh x (by simp [hx])
      refine ⟨d :: ys, ?_, all_cons e3 g2, by rw [List.length_cons, List.length_cons, g3]⟩
      have st : lcStep vs tg mYes te ρ a = ok (some d) := by
        unfold lcStep
        rw [e1, Res.ok_bind]
        show (te ρ' >>= fun y => ok (some y)) = _
        rw [e2, Res.ok_bind]
      show ((lcStep vs tg mYes te ρ a).quiet >>= fun r => compL (lcStep vs tg mYes te ρ) ds >>= fun ys => ok (match r with | some y => y :: ys | none => ys)) = _
      rw [st, Res.quiet_ok, Res.ok_bind, g1, Res.ok_bind]
  obtain ⟨ys, e1, e2, e3⟩ := key ds hh
  refine ⟨ys, ?_, e2, by omega⟩
  unfold mLc
  rw [hi, Res.ok_bind, e1, Res.ok_bind]
theorem EvT.ix {i : Int} {ds : List D} (e : f ρ = ok (.tup ds)) (o : ∀ x ∈ ds, Okv x) (e' : g ρ = ok (.int i)) (h1 : -(ds.length : Int) ≤ i) (h2 : i < ds.length) : Ev (mOp2 dIxX f g) ρ := by
  have hx : ∃ x ∈ ds, dIxX (.tup ds) (.int i) = some x := by
    show ∃ x ∈ ds, L2.atI ds i = some x
    unfold L2.atI L2.ixN
    by_cases h0 : 0 ≤ i
    · rw [if_pos h0, if_pos h2]
      have hl : i.toNat < ds.length := by omega
      exact ⟨ds[i.toNat], List.getElem_mem hl, List.getElem?_eq_getElem hl⟩
    · rw [if_neg h0, if_pos h1]
      have hl : (i + ds.length).toNat < ds.length := by omega
      exact ⟨ds[(i + ds.length).toNat], List.getElem_mem hl, List.getElem?_eq_getElem hl⟩
  obtain ⟨x, hx, e2⟩ := hx
  exact ⟨x, op2_ev e e' e2, o x hx⟩
end
theorem mod_bd {a : Int} {n : Nat} (hn : 0 < n) : ∃ k : Nat, a % (n : Int) = (k : Int) ∧ k < n := by
  have h1 := Int.emod_nonneg a (show (n : Int) ≠ 0 by omega)
  have h2 := Int.emod_lt_of_pos a (show (0 : Int) < n by omega)
  exact ⟨(a % (n : Int)).toNat, by omega, by omega⟩
theorem dr_ev {ds : List Int} {k : Nat} (hk : k < ds.length) {f g : Sls → Res D} {ρ : Sls} {i : Int} (e : f ρ = ok (.lst (ds.map .int))) (e' : g ρ = ok (.int i)) (hi : i = (k : Int)) : mBI dInt [mOp2 dIxX f g] ρ = ok (.int (ds.getD k 0)) := by
  subst hi
  exact i_int (op2_ev e e' (ix_lst (emb := D.int) 0 hk))
theorem i_mulLY {ρ : Sls} {f g : Sls → Res D} {x y : Int} (w1 : f ρ = ok (.int x)) (w2 : g ρ = ok (.int y)) (h1 : -1000000000 < x := by omega) (h2 : x < 1000000000 := by omega) : mOp2 dMulY f g ρ = ok (.int (x * y)) := op2_ev w1 w2 (dMul_sl h1 h2)
theorem ex_seq {s t : Sls → Fl} {ρ ρ1 : Sls} {R : Sls → Prop} (e : s ρ = .nx ρ1) (k : ∃ ρ', t ρ1 = .nx ρ' ∧ R ρ') : ∃ ρ', sSeq s t ρ = .nx ρ' ∧ R ρ' := by
  obtain ⟨ρ', e2, r⟩ := k
  exact ⟨ρ', seq_nx2 e e2, r⟩
theorem check_open_ev {m v : D} {b : Bool} (h : F_is_open [m, v] = ok (.bl b)) : F_check_open [m, .lst [v]] = if b then ok .non else exc "BadCell" := by
  let ρ : Sls := [.fz m, .fz (.lst [v]), .no]
  have c : (mNot (mT (mBI dAll [(mLc (mIt (mVar 1)) [2] (tgName 2) mYes (mCall F_is_open [(mVar 0), (mVar 2)]))]))) ρ = ok (!b) := by
    refine not_ev (t_ev (bi1 (lc_ev0 (as := [v]) (emb := fun z => z) (g := fun _ => D.bl b) (it_ev rfl rfl) fun l hl => ⟨_, rfl, ?_⟩) ?_))
    · rw [List.mem_singleton.mp hl]
      exact call_ev (args_ev rfl (args_ev rfl args0)) h
    · cases b <;> rfl
  cases b with
  | true => exact runF_nx (if_nx c)
  | false => exact runF_exc ((if_t c).trans rfl)
theorem check_ev {m c v : D} {b b2 : Bool} (h : F_is_open [m, c] = ok (.bl b)) (h2 : b = true → F_is_word [v] = ok (.bl b2)) : F__check [m, c, v] = if b then (if b2 then ok .non else exc "BadWord") else exc "BadCell" := by
  have e := check_open_ev h
  have a : mArgs [(mVar 0), (mLst [(mVar 1)])] [.fz m, .fz c, .fz v] = ok [m, .lst [c]] := rfl
  cases b with
  | false => exact runF_exc (seq_exc (drop_exc (call_ev a (e.trans rfl))))
  | true =>
    have d1 : sDrop (mCall F_check_open [(mVar 0), (mLst [(mVar 1)])]) [.fz m, .fz c, .fz v] = .nx [.fz m, .fz c, .fz v] := drop_ev (call_ev a (e.trans rfl))
    have c2 : (mNot (mT (mCall F_is_word [(mVar 2)]))) [.fz m, .fz c, .fz v] = ok (!b2) := not_ev (t_ev (call_ev (args_ev rfl args0) (h2 rfl)))
    cases b2 with
    | true => exact runF_nx (seq_nx2 d1 (if_nx c2))
    | false => exact runF_exc (seq_nx2 d1 ((if_t c2).trans rfl))
theorem report_ev {m c v : D} {b b2 : Bool} (h : F_is_open [m, c] = ok (.bl b)) (h2 : b = true → F_is_word [v] = ok (.bl b2)) : F_report [m, c, v] = if b then (if b2 then F_told [m, c, v] else exc "BadWord") else exc "BadCell" := by
  have e := check_ev h h2
  have a : mArgs [(mVar 0), (mVar 1), (mVar 2)] [.fz m, .fz c, .fz v] = ok [m, c, v] := rfl
  cases b with
  | false => exact runF_exc (seq_exc (drop_exc (call_ev a (e.trans rfl))))
  | true =>
    cases b2 with
    | false => exact runF_exc (seq_exc (drop_exc (call_ev a (e.trans rfl))))
    | true =>
      have d1 : sDrop (mCall F__check [(mVar 0), (mVar 1), (mVar 2)]) [.fz m, .fz c, .fz v] = .nx [.fz m, .fz c, .fz v] := drop_ev (call_ev a (e.trans rfl))
      show runF 3 3 b_report [m, c, v] = F_told [m, c, v]
      have d2 : mCall F_told [(mVar 0), (mVar 1), (mVar 2)] [.fz m, .fz c, .fz v] = F_told [m, c, v] := call_ev a rfl
      unfold runF
      rw [if_pos (by rfl)]
      have d3 : b_report (startS 3 [m, c, v]) = sRet (mCall F_told [(mVar 0), (mVar 1), (mVar 2)]) [.fz m, .fz c, .fz v] := seq_nx d1
      rw [d3]
      unfold sRet
      rw [d2]
      cases F_told [m, c, v] <;> rfl
section
variable {rows : List (List Nat)} {h w : Nat}
theorem report_ok (R : OkRows rows h w) {p : P2} (hp : opn rows h w p = true) {l : List Nat} (hl : l.length ≤ 1000) (hd : l.all isDir = true) : F_report [mz rows h w, pt p, tx l] = ok (tx (tld rows h w p l)) := by
  have e := report_ev (b := true) (b2 := true) (by rw [is_open_pt R p, hp]) (fun _ => by rw [is_word_tx hl, hd])
  exact e.trans (told_ok R p hl hd)
theorem okv_pt (p : P2) : Okv (pt p) := .tup (all_cons (.int _) (all_cons (.int _) all_nil)) (by show 2 ≤ 1000; omega)
theorem okv_pp (x : Q2) : Okv (pp x) := .tup (all_cons (okv_pt _) (all_cons (okv_pt _) all_nil)) (by show 2 ≤ 1000; omega)
theorem Ev.pt {f : Sls → Res D} {ρ : Sls} {p : P2} (e : f ρ = ok (pt p)) : Ev f ρ := ⟨_, e, okv_pt p⟩
theorem Ev.pp {f : Sls → Res D} {ρ : Sls} {p : Q2} (e : f ρ = ok (pp p)) : Ev f ρ := ⟨_, e, okv_pp p⟩
theorem EvT.pps {f : Sls → Res D} {ρ : Sls} {xs : List Q2} (e : f ρ = ok (.tup (xs.map PC.pp))) : EvT xs.length f ρ := ⟨_, e, fun x hx => by obtain ⟨p, _, rfl⟩ := List.mem_map.mp hx; exact okv_pp p, Nat.le_of_eq (List.length_map _)⟩
theorem EvT.more {f : Sls → Res D} {ρ : Sls} {m n : Nat} (e : EvT m f ρ) (h : m ≤ n) : EvT n f ρ := by
  obtain ⟨ds, e1, e2, e3⟩ := e
  exact ⟨ds, e1, e2, Nat.le_trans e3 h⟩
theorem EvL.more {f : Sls → Res D} {ρ : Sls} {m n : Nat} (e : EvL m f ρ) (h : m ≤ n) : EvL n f ρ := by
  obtain ⟨ds, e1, e2, e3⟩ := e
  exact ⟨ds, e1, e2, Nat.le_trans e3 h⟩
/-- the last of them -/
theorem EvT.last {f g : Sls → Res D} {ρ : Sls} {m : Nat} (e : EvT m f ρ) (e' : g ρ = ok (.int (-1))) : EvT 1 (mSl dSl f (mPart g) mNoPart) ρ := by
  obtain ⟨ds, e1, e2, e3⟩ := e
  refine ⟨cutD ds (some (-1)) none, sl_from e1 e' rfl, fun x hx => e2 x (cutD_mem hx), ?_⟩
  unfold cutD
  simp only [List.length_take, List.length_drop]
  have h1 : ds.length - 1 ≤ HT.sIx ds.length 0 (some (-1)) := by
    simp only [HT.sIx]
    first | done | omega | (split <;> omega) | (simp; omega)
  omega
end
end PC

namespace K73
open PySem PySem.Spec PyProof.Rows L2 PP
open PP.Res (ok exc bad)
def top (i : Nat) : Stmt := PySem.Challenge.pw_mazemore_k73_alike_pairs.main.body.getD i (.Pass ⟨0, 0, 0, 0⟩)
def inClass (c : Stmt) (j : Nat) : Stmt := match c with
  | .ClassDef (body := b) .. => b.getD j (.Pass ⟨0, 0, 0, 0⟩)
  | _ => .Pass ⟨0, 0, 0, 0⟩
def excs : List Str := ["MazeError", "BadMaze", "BadCell", "BadWord"]
def supers : List (Str × List Str) := [("MazeError", ["MazeError", "ValueError"]), ("BadMaze", ["BadMaze", "MazeError", "ValueError"]), ("BadCell", ["BadCell", "MazeError", "ValueError"]), ("BadWord", ["BadWord", "MazeError", "ValueError"])]
def sub (c d : Str) : Bool := match supers.lookup c with
  | some l => l.contains d
  | none => false
def tb_OTHERS : List (Str × D) := [("#", .str "."), (".", .str "#")]
def tb_STEPS : List (Str × D) := [("d", .tup [.int 1, .int 0]), ("l", .tup [.int 0, .int (-1)]), ("r", .tup [.int 0, .int 1]), ("u", .tup [.int (-1), .int 0])]
/-- value least most -/
noncomputable def b_is_whole : Sls → Fl :=
    (sRet (mAndV (mBI dIsi [(mVar 0), (mC (.ty "int"))]) (mAndV (mNotV (mBI dIsi [(mVar 0), (mC (.ty "bool"))])) (mChain dLeX dLeX (mVar 1) (mVar 0) (mVar 2)))))
noncomputable def F_is_whole : List D → Res D := runF 3 3 b_is_whole
/-- self rows row sign -/
noncomputable def b_Maze : Sls → Fl :=
    (sSeq (sIf (mOr (mNot (mT (mBI dIsi [(mVar 1), (mC (.ty "tuple"))]))) (mOr (mNot (mT (mChain dLeX dLeX (mC (.int 1)) (mBI dLenX [(mVar 1)]) (mC (.int 14))))) (mNot (mT (mBI dAll [(mLc (mIt (mVar 1)) [2] (tgName 2) mYes (mBI dIsi [(mVar 2), (mC (.ty "str"))]))]))))) (sRaise "BadMaze") sNx)
    (sSeq (sIf (mOr (mNot (mT (mChain dLeX dLeX (mC (.int 1)) (mBI dLenX [(mOp2 dIxX (mVar 1) (mC (.int 0)))]) (mC (.int 14))))) (mNot (mT (mBI dAll [(mLc (mIt (mVar 1)) [2] (tgName 2) mYes (mOp2 dEq (mBI dLenX [(mVar 2)]) (mBI dLenX [(mOp2 dIxX (mVar 1) (mC (.int 0)))])))])))) (sRaise "BadMaze") sNx)
    (sSeq (sIf (mNot (mT (mBI dAll [(mLc (mIt (mVar 1)) [2] (tgName 2) mYes (mOp2 dEq (mBI dLenX [(mLc (mIt (mVar 2)) [3] (tgName 3) (mT (mKNotIn tb_OTHERS (mVar 3))) (mVar 3))]) (mC (.int 0))))]))) (sRaise "BadMaze") sNx)
    (sSeq (sFldS 0 "Maze" "rows" (mVar 1))
    (sSeq (sFldS 0 "Maze" "height" (mBI dLenX [(mVar 1)]))
    (sFldS 0 "Maze" "width" (mBI dLenX [(mOp2 dIxX (mVar 1) (mC (.int 0)))])))))))
noncomputable def I_Maze : Addr → List D → Res D := runI 4 1 "Maze" b_Maze
open Classical in
noncomputable def F_Maze (ds : List D) : Res D := if ∀ a, I_Maze a ds = I_Maze 0 ds then I_Maze 0 ds else bad
theorem hF_Maze (a : Addr) (ds : List D) (d : D) (h : F_Maze ds = ok d) : I_Maze a ds = ok d := by
  unfold F_Maze at h
  split at h
  · rename_i q
    rw [q a]; exact h
  · cases h
theorem hE_Maze (a : Addr) (ds : List D) (c : Str) (h : F_Maze ds = exc c) : I_Maze a ds = exc c := by
  unfold F_Maze at h
  split at h
  · rename_i q
    rw [q a]; exact h
  · cases h
/-- maze value -/
noncomputable def b_is_cell : Sls → Fl :=
    (sSeq (sIf (mOr (mNot (mT (mBI dIsi [(mVar 1), (mC (.ty "tuple"))]))) (mT (mOp2 dNe (mBI dLenX [(mVar 1)]) (mC (.int 2))))) (sRet (mC (.bl false))) sNx)
    (sRet (mAndV (mCall F_is_whole [(mOp2 dIxX (mVar 1) (mC (.int 0))), (mC (.int 0)), (mOp2 dSub (mFld ["Maze"] "height" (mVar 0)) (mC (.int 1)))]) (mCall F_is_whole [(mOp2 dIxX (mVar 1) (mC (.int 1))), (mC (.int 0)), (mOp2 dSub (mFld ["Maze"] "width" (mVar 0)) (mC (.int 1)))]))))
noncomputable def F_is_cell : List D → Res D := runF 2 2 b_is_cell
/-- maze cell -/
noncomputable def b_is_open : Sls → Fl :=
    (sRet (mAndV (mCall F_is_cell [(mVar 0), (mVar 1)]) (mOp2 dEq (mOp2 dIxX (mOp2 dIxX (mFld ["Maze"] "rows" (mVar 0)) (mOp2 dIxX (mVar 1) (mC (.int 0)))) (mOp2 dIxX (mVar 1) (mC (.int 1)))) (mC (.str ".")))))
noncomputable def F_is_open : List D → Res D := runF 2 2 b_is_open
/-- maze values value -/
noncomputable def b_check_open : Sls → Fl :=
    (sIf (mNot (mT (mBI dAll [(mLc (mIt (mVar 1)) [2] (tgName 2) mYes (mCall F_is_open [(mVar 0), (mVar 2)]))]))) (sRaise "BadCell") sNx)
noncomputable def F_check_open : List D → Res D := runF 3 2 b_check_open
/-- value sign -/
noncomputable def b_is_word : Sls → Fl :=
    (sRet (mAndV (mBI dIsi [(mVar 0), (mC (.ty "str"))]) (mBI dAll [(mLc (mIt (mVar 0)) [1] (tgName 1) mYes (mKIn tb_STEPS (mVar 1)))])))
noncomputable def F_is_word : List D → Res D := runF 2 1 b_is_word
/-- maze cell word -/
noncomputable def b__check : Sls → Fl :=
    (sSeq (sDrop (mCall F_check_open [(mVar 0), (mLst [(mVar 1)])]))
    (sIf (mNot (mT (mCall F_is_word [(mVar 2)]))) (sRaise "BadWord") sNx))
noncomputable def F__check : List D → Res D := runF 3 3 b__check
/-- maze cell sign down across there -/
noncomputable def b_stepped : Sls → Fl :=
    (sSeq (sAsg (tgTup 2 (tgsCons (tgName 3) (tgsCons (tgName 4) tgsNil))) (mKGet tb_STEPS (mVar 2)))
    (sSeq (sSet 5 (mTup [(mOp2 dAdd (mOp2 dIxX (mVar 1) (mC (.int 0))) (mVar 3)), (mOp2 dAdd (mOp2 dIxX (mVar 1) (mC (.int 1))) (mVar 4))]))
    (sRet (mIf (mT (mCall F_is_open [(mVar 0), (mVar 5)])) (mVar 5) (mVar 1)))))
noncomputable def F_stepped : List D → Res D := runF 6 3 b_stepped
/-- maze cell word signs sign there -/
noncomputable def b_told : Sls → Fl :=
    (sSeq (sSet 3 (mC (.str "")))
    (sSeq (sFor (mIt (mVar 2)) (tgName 4)
    (sSeq (sSet 5 (mCall F_stepped [(mVar 0), (mVar 1), (mVar 4)]))
    (sSeq (sSet 3 (mOp2 dAdd (mVar 3) (mIf (mT (mOp2 dEq (mVar 5) (mVar 1))) (mC (.str "0")) (mC (.str "1")))))
    (sSet 1 (mVar 5)))))
    (sRet (mVar 3))))
noncomputable def F_told : List D → Res D := runF 6 3 b_told
/-- maze cell word -/
noncomputable def b_report : Sls → Fl :=
    (sSeq (sDrop (mCall F__check [(mVar 0), (mVar 1), (mVar 2)]))
    (sRet (mCall F_told [(mVar 0), (mVar 1), (mVar 2)])))
noncomputable def F_report : List D → Res D := runF 3 3 b_report
/-- maze value one other at -/
noncomputable def b_are_pairs : Sls → Fl :=
    (sSeq (sIf (mOr (mNot (mT (mBI dIsi [(mVar 1), (mC (.ty "tuple"))]))) (mNot (mT (mBI dAll [(mLc (mIt (mVar 1)) [2] (tgName 2) mYes (mAndV (mBI dIsi [(mVar 2), (mC (.ty "tuple"))]) (mOp2 dEq (mBI dLenX [(mVar 2)]) (mC (.int 2)))))])))) (sRet (mC (.bl false))) sNx)
    (sSeq (sIf (mNot (mT (mBI dAll [(mLc (mIt (mVar 1)) [2, 3] (tgTup 2 (tgsCons (tgName 2) (tgsCons (tgName 3) tgsNil))) mYes (mAndV (mCall F_is_open [(mVar 0), (mVar 2)]) (mAndV (mCall F_is_open [(mVar 0), (mVar 3)]) (mOp2 dLtX (mVar 2) (mVar 3)))))]))) (sRet (mC (.bl false))) sNx)
    (sRet (mBI dAll [(mLc (mRng rng1 [(mOp2 dSub (mBI dLenX [(mVar 1)]) (mC (.int 1)))]) [4] (tgName 4) mYes (mOp2 dLtX (mOp2 dIxX (mVar 1) (mVar 4)) (mOp2 dIxX (mVar 1) (mOp2 dAdd (mVar 4) (mC (.int 1))))))]))))
noncomputable def F_are_pairs : List D → Res D := runF 5 2 b_are_pairs
/-- maze pairs known one other sign here there is_apart pair -/
noncomputable def b_alike_fault : Sls → Fl :=
    (sSeq (sIf (mNot (mT (mCall F_are_pairs [(mVar 0), (mVar 1)]))) (sRet (mTup [(mC (.str "form"))])) sNx)
    (sSeq (sSet 2 (mDc (mIt (mVar 1)) [9] (tgName 9) mYes (mVar 9) (mC (.bl true))))
    (sSeq (sFor (mIt (mVar 1)) (tgTup 2 (tgsCons (tgName 3) (tgsCons (tgName 4) tgsNil)))
    (sFor (mIt (mC (.str "dlru"))) (tgName 5)
    (sSeq (sPar 6 7 (mCall F_stepped [(mVar 0), (mVar 3), (mVar 5)]) (mCall F_stepped [(mVar 0), (mVar 4), (mVar 5)]))
    (sSeq (sSet 8 (mAndV (mOp2 dNe (mVar 6) (mVar 7)) (mOp2 dNotInX (mTup [(mBI dMinX [(mVar 6), (mVar 7)]), (mBI dMaxX [(mVar 6), (mVar 7)])]) (mVar 2))))
    (sIf (mOr (mT (mOp2 dNe (mOp2 dEq (mVar 6) (mVar 3)) (mOp2 dEq (mVar 7) (mVar 4)))) (mT (mVar 8))) (sRet (mTup [(mC (.str "sign")), (mVar 3), (mVar 4), (mVar 5)])) sNx)))))
    (sRet (mC .non)))))
noncomputable def F_alike_fault : List D → Res D := runF 10 2 b_alike_fault
/-- script many draws seed cell number k -/
noncomputable def b__law_draws : Sls → Fl :=
    (sSeq (sSetO 2 (mLst []))
    (sSeq (sSet 3 (mC (.int 7)))
    (sSeq (sFor (mIt (mSl dSl (mVar 0) mNoPart (mPart (mC (.int 63))))) (tgName 4)
    (sSeq (sSet 5 (mBI dAbs [(mVar 4)]))
    (sSeq (sSet 3 (mOp2 dMod (mBI dInt [(mOp2 dAdd (mOp2 dAdd (mOp2 dMulX (mVar 3) (mC (.int 48271))) (mVar 5)) (mC (.int 11)))]) (mC (.int 2147483647))))
    (sIf (mT (mOp2 dGeX (mVar 5) (mOp2 dPow (mC (.int 10)) (mC (.int 18))))) (sFor (mRng rng1 [(mC (.int 60))]) (tgName 6)
    (sIf (mT (mOp2 dGtX (mVar 5) (mC (.int 0)))) (sSeq (sApp 2 (mOp2 dMod (mBI dInt [(mVar 5)]) (mC (.int 1009))))
    (sSet 5 (mOp2 dDiv (mVar 5) (mC (.int 1009))))) sNx)) (sApp 2 (mOp2 dMod (mOp2 dDiv (mBI dInt [(mOp2 dAdd (mOp2 dMulX (mVar 3) (mC (.int 16807))) (mC (.int 5)))]) (mC (.int 3))) (mC (.int 65521))))))))
    (sSeq (sFor (mRng rng1 [(mVar 1)]) (tgName 6)
    (sIf (mT (mOp2 dLtX (mBI dLenX [(mVarB 2)]) (mVar 1))) (sSeq (sSet 3 (mOp2 dMod (mBI dInt [(mOp2 dAdd (mOp2 dAdd (mOp2 dMulX (mVar 3) (mC (.int 69621))) (mVar 6)) (mC (.int 1)))]) (mC (.int 2147483647))))
    (sApp 2 (mOp2 dMod (mOp2 dDiv (mBI dInt [(mVar 3)]) (mC (.int 7))) (mC (.int 65521))))) sNx))
    (sRet (mSl dSl (mVarB 2) mNoPart (mPart (mVar 1))))))))
noncomputable def F__law_draws : List D → Res D := runF 7 2 b__law_draws
/-- draws high wide found row draw k -/
noncomputable def b__law_rows : Sls → Fl :=
    (sSeq (sSetO 3 (mLst []))
    (sSeq (sFor (mRng rng1 [(mVar 1)]) (tgName 4)
    (sSeq (sSet 5 (mBI dInt [(mOp2 dIxX (mVar 0) (mOp2 dAdd (mC (.int 1)) (mOp2 dMod (mVar 4) (mOp2 dSub (mBI dLenX [(mVar 0)]) (mC (.int 1))))))]))
    (sApp 3 (mM1 dJoin (mC (.str "")) (mLc (mRng rng1 [(mVar 2)]) [6] (tgName 6) mYes (mIf (mT (mOp2 dLtX (mOp2 dMod (mOp2 dDiv (mBI dInt [(mOp2 dAdd (mOp2 dAdd (mOp2 dMulX (mVar 5) (mOp2 dAdd (mVar 6) (mC (.int 3)))) (mOp2 dMulX (mVar 6) (mC (.int 37)))) (mOp2 dMulX (mVar 4) (mC (.int 11))))]) (mC (.int 7))) (mC (.int 8))) (mOp2 dMod (mBI dInt [(mOp2 dIxX (mVar 0) (mC (.int 0)))]) (mC (.int 4))))) (mC (.str "#")) (mC (.str "."))))))))
    (sRet (mBI dTuple [(mOp2 dAdd (mLst [(mOp2 dAdd (mC (.str ".")) (mSl dSl (mOp2 dIxX (mVarB 3) (mC (.int 0))) (mPart (mC (.int 1))) mNoPart))]) (mSl dSl (mVarB 3) (mPart (mC (.int 1))) mNoPart))]))))
noncomputable def F__law_rows : List D → Res D := runF 7 3 b__law_rows
/-- rows found row k -/
noncomputable def b__law_cells : Sls → Fl :=
    (sSeq (sSet 1 (mLst []))
    (sSeq (sFor (mRng rng1 [(mBI dLenX [(mVar 0)])]) (tgName 2)
    (sSet 1 (mOp2 dAdd (mVar 1) (mLc (mRng rng1 [(mBI dLenX [(mOp2 dIxX (mVar 0) (mC (.int 0)))])]) [3] (tgName 3) (mT (mOp2 dEq (mOp2 dIxX (mOp2 dIxX (mVar 0) (mVar 2)) (mVar 3)) (mC (.str ".")))) (mTup [(mVar 2), (mVar 3)])))))
    (sRet (mBI dTuple [(mVar 1)]))))
noncomputable def F__law_cells : List D → Res D := runF 4 1 b__law_cells
/-- rows cell found step there -/
noncomputable def b__law_near : Sls → Fl :=
    (sSeq (sSetO 2 (mLst []))
    (sSeq (sFor (mIt (mLst [(mTup [(mOp1 dNeg (mC (.int 1))), (mC (.int 0))]), (mTup [(mC (.int 0)), (mOp1 dNeg (mC (.int 1)))]), (mTup [(mC (.int 0)), (mC (.int 1))]), (mTup [(mC (.int 1)), (mC (.int 0))])])) (tgName 3)
    (sSeq (sSet 4 (mTup [(mOp2 dAdd (mOp2 dIxX (mVar 1) (mC (.int 0))) (mOp2 dIxX (mVar 3) (mC (.int 0)))), (mOp2 dAdd (mOp2 dIxX (mVar 1) (mC (.int 1))) (mOp2 dIxX (mVar 3) (mC (.int 1))))]))
    (sIf (mAnd (mT (mChain dLeX dLtX (mC (.int 0)) (mOp2 dIxX (mVar 4) (mC (.int 0))) (mBI dLenX [(mVar 0)]))) (mAnd (mT (mChain dLeX dLtX (mC (.int 0)) (mOp2 dIxX (mVar 4) (mC (.int 1))) (mBI dLenX [(mOp2 dIxX (mVar 0) (mC (.int 0)))]))) (mT (mOp2 dEq (mOp2 dIxX (mOp2 dIxX (mVar 0) (mOp2 dIxX (mVar 4) (mC (.int 0)))) (mOp2 dIxX (mVar 4) (mC (.int 1)))) (mC (.str ".")))))) (sApp 2 (mVar 4)) sNx)))
    (sFrz 2 (sRet (mVar 2)))))
noncomputable def F__law_near : List D → Res D := runF 5 2 b__law_near
/-- rows cell sign step there -/
noncomputable def b__law_step : Sls → Fl :=
    (sSeq (sSet 3 (mDispGet [("d", (mTup [(mC (.int 1)), (mC (.int 0))])), ("l", (mTup [(mC (.int 0)), (mOp1 dNeg (mC (.int 1)))])), ("r", (mTup [(mC (.int 0)), (mC (.int 1))])), ("u", (mTup [(mOp1 dNeg (mC (.int 1))), (mC (.int 0))]))] (mVar 2)))
    (sSeq (sSet 4 (mTup [(mOp2 dAdd (mOp2 dIxX (mVar 1) (mC (.int 0))) (mOp2 dIxX (mVar 3) (mC (.int 0)))), (mOp2 dAdd (mOp2 dIxX (mVar 1) (mC (.int 1))) (mOp2 dIxX (mVar 3) (mC (.int 1))))]))
    (sRet (mIf (mT (mOp2 dInX (mVar 4) (mCall F__law_near [(mVar 0), (mVar 1)]))) (mVar 4) (mVar 1)))))
noncomputable def F__law_step : List D → Res D := runF 5 3 b__law_step
/-- rows cell word told_v sign there -/
noncomputable def b__law_led : Sls → Fl :=
    (sSeq (sSet 3 (mC (.str "")))
    (sSeq (sFor (mIt (mVar 2)) (tgName 4)
    (sSeq (sSet 5 (mCall F__law_step [(mVar 0), (mVar 1), (mVar 4)]))
    (sPar 1 3 (mVar 5) (mOp2 dAdd (mVar 3) (mIf (mT (mOp2 dEq (mVar 5) (mVar 1))) (mC (.str "0")) (mC (.str "1")))))))
    (sRet (mTup [(mVar 1), (mVar 3)]))))
noncomputable def F__law_led : List D → Res D := runF 6 3 b__law_led
/-- cells found k other -/
noncomputable def b__law_pairs : Sls → Fl :=
    (sSeq (sSet 1 (mLst []))
    (sSeq (sFor (mRng rng1 [(mBI dLenX [(mVar 0)])]) (tgName 2)
    (sSet 1 (mOp2 dAdd (mVar 1) (mLc (mIt (mSl dSl (mVar 0) (mPart (mOp2 dAdd (mVar 2) (mC (.int 1)))) mNoPart)) [3] (tgName 3) mYes (mTup [(mOp2 dIxX (mVar 0) (mVar 2)), (mVar 3)])))))
    (sRet (mVar 1))))
noncomputable def F__law_pairs : List D → Res D := runF 4 1 b__law_pairs
/-- rows pair sign -/
noncomputable def b__law_behind : Sls → Fl :=
    (sRet (mBI dTuple [(mBI dSortedX [(mLst [(mCall F__law_step [(mVar 0), (mOp2 dIxX (mVar 1) (mC (.int 0))), (mVar 2)]), (mCall F__law_step [(mVar 0), (mOp2 dIxX (mVar 1) (mC (.int 1))), (mVar 2)])])])]))
noncomputable def F__law_behind : List D → Res D := runF 3 3 b__law_behind
/-- cells value one -/
noncomputable def b__law_is_cell : Sls → Fl :=
    (sSeq (sIf (mOr (mNot (mT (mBI dIsi [(mVar 1), (mC (.ty "tuple"))]))) (mOr (mT (mOp2 dNe (mBI dLenX [(mVar 1)]) (mC (.int 2)))) (mNot (mT (mBI dAll [(mLc (mIt (mVar 1)) [2] (tgName 2) mYes (mAndV (mBI dIsi [(mVar 2), (mC (.ty "int"))]) (mNotV (mBI dIsi [(mVar 2), (mC (.ty "bool"))]))))]))))) (sRet (mC (.bl false))) sNx)
    (sRet (mOp2 dInX (mVar 1) (mVar 0))))
noncomputable def F__law_is_cell : List D → Res D := runF 3 2 b__law_is_cell
/-- rows cells left known turn fresh pair sign there bumps cell -/
noncomputable def b__law_told : Sls → Fl :=
    (sSeq (sParFN 2 3 (mCall F__law_pairs [(mVar 1)]) (mC (.dct [])))
    (sSeq (sFor (mRng rng1 [(mOp2 dAdd (mBI dLenX [(mVar 2)]) (mC (.int 1)))]) (tgName 4)
    (sSeq (sSetO 5 (mC (.dct [])))
    (sSeq (sFor (mIt (mVar 2)) (tgName 6)
    (sFor (mIt (mC (.str "urld"))) (tgName 7)
    (sSeq (sSet 8 (mCall F__law_behind [(mVar 0), (mVar 6), (mVar 7)]))
    (sSeq (sSet 9 (mLc (mIt (mVar 6)) [10] (tgName 10) mYes (mOp2 dEq (mCall F__law_step [(mVar 0), (mVar 10), (mVar 7)]) (mVar 10))))
    (sIf (mOr (mT (mOp2 dNe (mOp2 dIxX (mVar 9) (mC (.int 0))) (mOp2 dIxX (mVar 9) (mC (.int 1))))) (mT (mOp2 dInX (mVar 8) (mVarB 3)))) (sPut 5 (mVar 6) (mVar 7)) sNx)))))
    (sSeq (sIf (mT (mOp2 dEq (mBI dLenX [(mVarB 5)]) (mC (.int 0)))) (sFrz 3 (sRet (mVar 3))) sNx)
    (sSeq (sSet 2 (mLc (mIt (mVar 2)) [6] (tgName 6) (mT (mOp2 dNotInX (mVar 6) (mVarB 5))) (mVar 6)))
    (sFrz 5 (sFor (mItD (mVar 5)) (tgName 6)
    (sPut 3 (mVar 6) (mOp2 dIxX (mVarB 5) (mVar 6))))))))))
    (sFrz 3 (sRet (mVar 3)))))
noncomputable def F__law_told : List D → Res D := runF 11 2 b__law_told
/-- known one other -/
noncomputable def b__law_alike : Sls → Fl :=
    (sRet (mOrV (mOp2 dEq (mVar 1) (mVar 2)) (mOp2 dNotInX (mTup [(mBI dMinX [(mVar 1), (mVar 2)]), (mBI dMaxX [(mVar 1), (mVar 2)])]) (mVar 0))))
noncomputable def F__law_alike : List D → Res D := runF 3 3 b__law_alike
/-- rows cells value known pair sign there bumps one k cell -/
noncomputable def b__law_due : Sls → Fl :=
    (sSeq (sIf (mOr (mNot (mT (mBI dIsi [(mVar 2), (mC (.ty "tuple"))]))) (mNot (mT (mBI dAll [(mLc (mIt (mVar 2)) [8] (tgName 8) mYes (mAndV (mBI dIsi [(mVar 8), (mC (.ty "tuple"))]) (mOp2 dEq (mBI dLenX [(mVar 8)]) (mC (.int 2)))))])))) (sRet (mTup [(mC (.str "form"))])) sNx)
    (sSeq (sIf (mNot (mT (mBI dAll [(mLc (mIt (mVar 2)) [8] (tgName 8) mYes (mAndV (mCall F__law_is_cell [(mVar 1), (mOp2 dIxX (mVar 8) (mC (.int 0)))]) (mAndV (mCall F__law_is_cell [(mVar 1), (mOp2 dIxX (mVar 8) (mC (.int 1)))]) (mOp2 dLtX (mOp2 dIxX (mVar 8) (mC (.int 0))) (mOp2 dIxX (mVar 8) (mC (.int 1)))))))]))) (sRet (mTup [(mC (.str "form"))])) sNx)
    (sSeq (sIf (mT (mBI dAny [(mLc (mRng rng1 [(mOp2 dSub (mBI dLenX [(mVar 2)]) (mC (.int 1)))]) [9] (tgName 9) mYes (mOp2 dGeX (mOp2 dIxX (mVar 2) (mVar 9)) (mOp2 dIxX (mVar 2) (mOp2 dAdd (mVar 9) (mC (.int 1))))))])) (sRet (mTup [(mC (.str "form"))])) sNx)
    (sSeq (sSetO 3 (mC (.dct [])))
    (sSeq (sFor (mIt (mVar 2)) (tgName 4)
    (sPut 3 (mVar 4) (mC (.bl true))))
    (sSeq (sFor (mIt (mVar 2)) (tgName 4)
    (sFor (mIt (mC (.str "dlru"))) (tgName 5)
    (sSeq (sSet 6 (mCall F__law_behind [(mVar 0), (mVar 4), (mVar 5)]))
    (sSeq (sSet 7 (mLc (mIt (mVar 4)) [10] (tgName 10) mYes (mOp2 dEq (mCall F__law_step [(mVar 0), (mVar 10), (mVar 5)]) (mVar 10))))
    (sIf (mOr (mT (mOp2 dNe (mOp2 dIxX (mVar 7) (mC (.int 0))) (mOp2 dIxX (mVar 7) (mC (.int 1))))) (mAnd (mT (mOp2 dNe (mOp2 dIxX (mVar 6) (mC (.int 0))) (mOp2 dIxX (mVar 6) (mC (.int 1))))) (mT (mOp2 dNotInX (mVar 6) (mVarB 3))))) (sRet (mTup [(mC (.str "sign")), (mOp2 dIxX (mVar 4) (mC (.int 0))), (mOp2 dIxX (mVar 4) (mC (.int 1))), (mVar 5)])) sNx)))))
    (sRet (mC .non))))))))
noncomputable def F__law_due : List D → Res D := runF 11 3 b__law_due
/-- draws cells value one other pair found at wrong -/
noncomputable def b__law_bent : Sls → Fl :=
    (sSeq (sPar 3 4 (mOp2 dIxX (mVar 1) (mOp2 dMod (mBI dInt [(mOp2 dIxX (mVar 0) (mC (.int 0)))]) (mBI dLenX [(mVar 1)]))) (mOp2 dIxX (mVar 1) (mOp2 dMod (mBI dInt [(mOp2 dIxX (mVar 0) (mC (.int 1)))]) (mBI dLenX [(mVar 1)]))))
    (sSeq (sSet 5 (mTup [(mBI dMinX [(mVar 3), (mVar 4)]), (mBI dMaxX [(mVar 3), (mVar 4)])]))
    (sSeq (sSet 6 (mLst [(mVar 2), (mBI dList [(mVar 2)]), (mC .non), (mC (.int 7)), (mTup []), (mSl dSl (mVar 2) (mPart (mC (.int 1))) mNoPart), (mSl dSl (mVar 2) mNoPart (mPart (mOp1 dNeg (mC (.int 1))))), (mOp1 dRevT (mVar 2)), (mOp2 dAdd (mVar 2) (mSl dSl (mVar 2) (mPart (mOp1 dNeg (mC (.int 1)))) mNoPart)), (mTup [(mVar 5)]), (mBI dTuple [(mCall F__law_pairs [(mVar 1)])]), (mOp2 dAdd (mVar 2) (mTup [(mTup [(mVar 3), (mVar 3)])])), (mOp2 dAdd (mVar 2) (mTup [(mTup [(mOp2 dIxX (mVar 5) (mC (.int 1))), (mOp2 dIxX (mVar 5) (mC (.int 0)))])]))]))
    (sSeq (sSet 6 (mOp2 dAdd (mOp2 dAdd (mVar 6) (mLst [(mBI dTuple [(mBI dSSN [(mOp2 dAdd (mVar 2) (mTup [(mVar 5)]))])])])) (mLc (mIt (mLst [(mC .non), (mTup [(mVar 3)]), (mLst [(mVar 3), (mVar 4)]), (mTup [(mVar 3), (mTup [(mC (.int 99)), (mC (.int 0))])]), (mTup [(mC .non), (mVar 4)]), (mTup [(mTup [(mC (.int 0)), (mC (.bl true))]), (mTup [(mC (.int 0)), (mC (.int 2))])]), (mTup [(mVar 3), (mVar 4), (mVar 3)])])) [8] (tgName 8) mYes (mOp2 dAdd (mVar 2) (mTup [(mVar 8)])))))
    (sSeq (sIf (mT (mOp2 dGtX (mBI dLenX [(mVar 2)]) (mC (.int 0)))) (sSeq (sSet 7 (mOp2 dMod (mBI dInt [(mOp2 dIxX (mVar 0) (mC (.int 2)))]) (mBI dLenX [(mVar 2)])))
    (sSet 6 (mOp2 dAdd (mVar 6) (mLst [(mOp2 dAdd (mSl dSl (mVar 2) mNoPart (mPart (mVar 7))) (mSl dSl (mVar 2) (mPart (mOp2 dAdd (mVar 7) (mC (.int 1)))) mNoPart)), (mOp2 dAdd (mOp2 dAdd (mSl dSl (mVar 2) mNoPart (mPart (mVar 7))) (mTup [(mVar 5)])) (mSl dSl (mVar 2) (mPart (mOp2 dAdd (mVar 7) (mC (.int 1)))) mNoPart))])))) sNx)
    (sRet (mVar 6)))))))
noncomputable def F__law_bent : List D → Res D := runF 9 3 b__law_bent
/-- script draws turn rows maze cells known alike value due k one other word pair n -/
noncomputable def b_law : Sls → Fl :=
    (sSeq (sSet 1 (mCall F__law_draws [(mVar 0), (mC (.int 50))]))
    (sSeq (sFor (mRng rng1 [(mC (.int 2))]) (tgName 2)
    (sSeq (sSet 3 (mCall F__law_rows [(mSl dSl (mVar 1) (mPart (mOp2 dAdd (mC (.int 2)) (mOp2 dMulY (mC (.int 8)) (mVar 2)))) (mPart (mOp2 dAdd (mC (.int 14)) (mOp2 dMulY (mC (.int 8)) (mVar 2))))), (mOp2 dAdd (mC (.int 1)) (mOp2 dMod (mBI dInt [(mOp2 dIxX (mVar 1) (mVar 2))]) (mC (.int 3)))), (mOp2 dAdd (mC (.int 1)) (mOp2 dMod (mOp2 dDiv (mBI dInt [(mOp2 dIxX (mVar 1) (mVar 2))]) (mC (.int 5))) (mC (.int 6))))]))
    (sSeq (sIf (mT (mOp2 dEq (mOp2 dMod (mBI dInt [(mOp2 dIxX (mVar 1) (mOp2 dAdd (mC (.int 20)) (mVar 2)))]) (mC (.int 2))) (mC (.int 0)))) (sSet 3 (mOp2 dAdd (mOp2 dAdd (mVar 3) (mTup [(mOp2 dMulY (mC (.str "#")) (mBI dLenX [(mOp2 dIxX (mVar 3) (mC (.int 0)))]))])) (mVar 3))) sNx)
    (sSeq (sPar 4 5 (mMakeE F_Maze [(mVar 3)]) (mCall F__law_cells [(mVar 3)]))
    (sSeq (sSet 6 (mCall F__law_told [(mVar 3), (mVar 5)]))
    (sSeq (sSet 7 (mBI dTuple [(mLc (mIt (mCall F__law_pairs [(mVar 5)])) [14] (tgName 14) (mT (mOp2 dNotInX (mVar 14) (mVar 6))) (mVar 14))]))
    (sSeq (sFor (mIt (mCall F__law_bent [(mSl dSl (mVar 1) (mPart (mOp2 dAdd (mC (.int 22)) (mOp2 dMulY (mC (.int 4)) (mVar 2)))) mNoPart), (mVar 5), (mVar 7)])) (tgName 8)
    (sSeq (sSet 9 (mCall F__law_due [(mVar 3), (mVar 5), (mVar 8)]))
    (sIf (mOr (mT (mOp2 dNe (mCall F_alike_fault [(mVar 4), (mVar 8)]) (mVar 9))) (mAnd (mT (mOp2 dIsX (mVar 9) (mC .non))) (mT (mBI dAny [(mLc (mIt (mVar 8)) [14] (tgName 14) mYes (mOp2 dInX (mVar 14) (mVar 6)))])))) (sRet (mC (.bl false))) sNx)))
    (sFor (mRng rng1 [(mBI dMinX [(mC (.int 6)), (mBI dLenX [(mVar 7)])])]) (tgName 10)
    (sSeq (sAsg (tgTup 2 (tgsCons (tgName 11) (tgsCons (tgName 12) tgsNil))) (mOp2 dIxX (mVar 7) (mOp2 dMod (mBI dInt [(mOp2 dIxX (mVar 1) (mOp2 dAdd (mC (.int 30)) (mVar 10)))]) (mBI dLenX [(mVar 7)]))))
    (sSeq (sSet 13 (mM1 dJoin (mC (.str "")) (mLc (mRng rng1 [(mC (.int 20))]) [15] (tgName 15) mYes (mOp2 dIxX (mC (.str "dlru")) (mOp2 dMod (mOp2 dDiv (mBI dInt [(mOp2 dIxX (mVar 1) (mOp2 dAdd (mC (.int 36)) (mVar 10)))]) (mOp2 dAdd (mVar 15) (mC (.int 1)))) (mC (.int 4)))))))
    (sIf (mT (mOp2 dNe (mCall F_report [(mVar 4), (mVar 11), (mVar 13)]) (mCall F_report [(mVar 4), (mVar 12), (mVar 13)]))) (sRet (mC (.bl false))) sNx)))))))))))
    (sRet (mC (.bl true)))))
noncomputable def F_law : List D → Res D := runF 16 1 b_law
structure Facts (w : World) (K : PySem.W.Frag) (mg : Str → Option Value) : Prop where
  d_Maze : DefK K (inClass (top 10) 0) "__init__" "Maze.__init__" (He.ma K (He.ga K "Maze") "__init__") ["self", "rows"]
  d__check : DefK K (top 18) "_check" "_check" (He.ga K "_check") ["maze", "cell", "word"]
  d__law_alike : DefK K (top 36) "_law_alike" "_law_alike" (He.ga K "_law_alike") ["known", "one", "other"]
  d__law_behind : DefK K (top 33) "_law_behind" "_law_behind" (He.ga K "_law_behind") ["rows", "pair", "sign"]
  d__law_bent : DefK K (top 38) "_law_bent" "_law_bent" (He.ga K "_law_bent") ["draws", "cells", "value"]
  d__law_cells : DefK K (top 28) "_law_cells" "_law_cells" (He.ga K "_law_cells") ["rows"]
  d__law_draws : DefK K (top 26) "_law_draws" "_law_draws" (He.ga K "_law_draws") ["script", "many"]
  d__law_due : DefK K (top 37) "_law_due" "_law_due" (He.ga K "_law_due") ["rows", "cells", "value"]
  d__law_is_cell : DefK K (top 34) "_law_is_cell" "_law_is_cell" (He.ga K "_law_is_cell") ["cells", "value"]
  d__law_led : DefK K (top 31) "_law_led" "_law_led" (He.ga K "_law_led") ["rows", "cell", "word"]
  d__law_near : DefK K (top 29) "_law_near" "_law_near" (He.ga K "_law_near") ["rows", "cell"]
  d__law_pairs : DefK K (top 32) "_law_pairs" "_law_pairs" (He.ga K "_law_pairs") ["cells"]
  d__law_rows : DefK K (top 27) "_law_rows" "_law_rows" (He.ga K "_law_rows") ["draws", "high", "wide"]
  d__law_step : DefK K (top 30) "_law_step" "_law_step" (He.ga K "_law_step") ["rows", "cell", "sign"]
  d__law_told : DefK K (top 35) "_law_told" "_law_told" (He.ga K "_law_told") ["rows", "cells"]
  d_alike_fault : DefK K (top 24) "alike_fault" "alike_fault" (He.ga K "alike_fault") ["maze", "pairs"]
  d_are_pairs : DefK K (top 22) "are_pairs" "are_pairs" (He.ga K "are_pairs") ["maze", "value"]
  d_check_open : DefK K (top 13) "check_open" "check_open" (He.ga K "check_open") ["maze", "values"]
  d_is_cell : DefK K (top 11) "is_cell" "is_cell" (He.ga K "is_cell") ["maze", "value"]
  d_is_open : DefK K (top 12) "is_open" "is_open" (He.ga K "is_open") ["maze", "cell"]
  d_is_whole : DefK K (top 9) "is_whole" "is_whole" (He.ga K "is_whole") ["value", "least", "most"]
  d_is_word : DefK K (top 17) "is_word" "is_word" (He.ga K "is_word") ["value"]
  d_law : DefK K (top 39) "law" "law" (He.ga K "law") ["script"]
  d_report : DefK K (top 21) "report" "report" (He.ga K "report") ["maze", "cell", "word"]
  d_stepped : DefK K (top 19) "stepped" "stepped" (He.ga K "stepped") ["maze", "cell", "sign"]
  d_told : DefK K (top 20) "told" "told" (He.ga K "told") ["maze", "cell", "word"]
  fld_Maze_height : FldOk K "height" "Maze"
  fld_Maze_rows : FldOk K "rows" "Maze"
  fld_Maze_width : FldOk K "width" "Maze"
  b_abs : mg "abs" = none
  b_all : mg "all" = none
  b_any : mg "any" = none
  b_bool : mg "bool" = none
  b_int : mg "int" = none
  b_isinstance : mg "isinstance" = none
  b_len : mg "len" = none
  b_list : mg "list" = none
  b_max : mg "max" = none
  b_min : mg "min" = none
  b_range : mg "range" = none
  b_set : mg "set" = none
  b_sorted : mg "sorted" = none
  b_str : mg "str" = none
  b_tuple : mg "tuple" = none
  g_Maze : mg "Maze" = some (.ref (He.ga K "Maze"))
  g_OTHERS : mg "OTHERS" = some (.ref (He.ga K "OTHERS"))
  g_STEPS : mg "STEPS" = some (.ref (He.ga K "STEPS"))
  g__check : mg "_check" = some (.ref (He.ga K "_check"))
  g__law_alike : mg "_law_alike" = some (.ref (He.ga K "_law_alike"))
  g__law_behind : mg "_law_behind" = some (.ref (He.ga K "_law_behind"))
  g__law_bent : mg "_law_bent" = some (.ref (He.ga K "_law_bent"))
  g__law_cells : mg "_law_cells" = some (.ref (He.ga K "_law_cells"))
  g__law_draws : mg "_law_draws" = some (.ref (He.ga K "_law_draws"))
  g__law_due : mg "_law_due" = some (.ref (He.ga K "_law_due"))
  g__law_is_cell : mg "_law_is_cell" = some (.ref (He.ga K "_law_is_cell"))
  g__law_led : mg "_law_led" = some (.ref (He.ga K "_law_led"))
  g__law_near : mg "_law_near" = some (.ref (He.ga K "_law_near"))
  g__law_pairs : mg "_law_pairs" = some (.ref (He.ga K "_law_pairs"))
  g__law_rows : mg "_law_rows" = some (.ref (He.ga K "_law_rows"))
  g__law_step : mg "_law_step" = some (.ref (He.ga K "_law_step"))
  g__law_told : mg "_law_told" = some (.ref (He.ga K "_law_told"))
  g_alike_fault : mg "alike_fault" = some (.ref (He.ga K "alike_fault"))
  g_are_pairs : mg "are_pairs" = some (.ref (He.ga K "are_pairs"))
  g_check_open : mg "check_open" = some (.ref (He.ga K "check_open"))
  g_is_cell : mg "is_cell" = some (.ref (He.ga K "is_cell"))
  g_is_open : mg "is_open" = some (.ref (He.ga K "is_open"))
  g_is_whole : mg "is_whole" = some (.ref (He.ga K "is_whole"))
  g_is_word : mg "is_word" = some (.ref (He.ga K "is_word"))
  g_law : mg "law" = some (.ref (He.ga K "law"))
  g_report : mg "report" = some (.ref (He.ga K "report"))
  g_stepped : mg "stepped" = some (.ref (He.ga K "stepped"))
  g_told : mg "told" = some (.ref (He.ga K "told"))
  i_MOST : ∃ t, mg "MOST" = some (.int 14 t)
  mk_Maze : Mk K (He.ga K "Maze") (He.ma K (He.ga K "Maze") "__init__")
  ra_BadCell : ExcF K mg "BadCell"
  ra_BadMaze : ExcF K mg "BadMaze"
  ra_BadWord : ExcF K mg "BadWord"
  s_OPEN : ∃ t, mg "OPEN" = some (.str "." t)
  s_SIGNS : ∃ t, mg "SIGNS" = some (.str "dlru" t)
  t_OTHERS : KTab K w "OTHERS" tb_OTHERS
  t_STEPS : KTab K w "STEPS" tb_STEPS
section
variable {P : Program} {w : World} {K : PySem.W.Frag} {mg : Str → Option Value} {base : Heap}
theorem S_is_whole : FnScope ["value", "least", "most"] ["value", "least", "most"] (defScope (top 9)) := ⟨rfl, rfl, rfl, by decide +kernel, rfl, by decide +kernel, by decide +kernel⟩
theorem ok_is_whole (T : Facts w K mg) : FnP P w K mg base 1 (He.ga K "is_whole") ["value", "least", "most"] (spF K F_is_whole) := by
  refine T.d_is_whole.f S_is_whole fun cdv A outer s H E hr => ?_
  have tk := L2.takes_of (X := cxOf (L2.CX P w) P w K mg base ["value", "least", "most"] "is_whole" (defScope (top 9)) (He.ga K "is_whole") cdv A outer s H E) rfl rfl rfl rfl
  have hx := fun σ => L2.passAt tk σ
  have own := L2.passes_of (X := cxOf (L2.CX P w) P w K mg base ["value", "least", "most"] "is_whole" (defScope (top 9)) (He.ga K "is_whole") cdv A outer s H E) rfl
  exact (ss_one (ss_ret (ef_and (ef_bi call_isi c_isi T.b_isinstance (ec_cons ((ef_var 0)).b (ec_cons ((ef_bty T.b_int)).b ec_nil))) (ef_and (ef_not (ef_bi call_isi c_isi T.b_isinstance (ec_cons ((ef_var 0)).b (ec_cons ((ef_bty T.b_bool)).b ec_nil)))) (ef_one (ef_chain (op_leX (un65 hr)) (op_leX (un65 hr)) o_leX o_leX ((ef_var 1)).b ((ef_var 0)).b ((ef_var 2)).b))))))
theorem S_Maze : FnScope ["self", "rows", "row", "sign"] ["self", "rows"] (defScope (inClass (top 10) 0)) := ⟨rfl, rfl, rfl, by decide +kernel, rfl, by decide +kernel, by decide +kernel⟩
theorem ok_Maze (T : Facts w K mg) : FnP P w K mg base 1 (He.ma K (He.ga K "Maze") "__init__") ["self", "rows"] (spI K "Maze" I_Maze) := by
  refine T.d_Maze.i S_Maze (n := 3) rfl fun cdv A outer s H E hr => ?_
  have tk := L2.takes_of (X := cxOf (L2.CX P w) P w K mg base ["self", "rows", "row", "sign"] "Maze.__init__" (defScope (inClass (top 10) 0)) (He.ma K (He.ga K "Maze") "__init__") cdv A outer s H E) rfl rfl rfl rfl
  have hx := fun σ => L2.passAt tk σ
  have own := L2.passes_of (X := cxOf (L2.CX P w) P w K mg base ["self", "rows", "row", "sign"] "Maze.__init__" (defScope (inClass (top 10) 0)) (He.ma K (He.ga K "Maze") "__init__") cdv A outer s H E) rfl
  exact (ss_cons (ss_if (ew_or (et_not (et_val (ef_bi call_isi c_isi T.b_isinstance (ec_cons ((ef_var 1)).b (ec_cons ((ef_bty T.b_tuple)).b ec_nil))))) (ew_or (et_not (et_chain (op_leX (un65 hr)) (op_leX (un65 hr)) o_leX o_leX (ef_int).b ((ef_bi call_lenX c_lenX T.b_len (ec_cons ((ef_var 1)).b ec_nil))).b ((ef_gint T.i_MOST)).b)) (ew_or1 (et_not (et_val (ef_bi (cr_all rfl) c_all T.b_all (ec_cons ((en_lc rfl S_Maze.nd (ei_any (ef_var 1)) (blkOk_by (own := [("row", 2)]) (by kernel_rfl)) (tg_name 2) (fun _ _ _ _ _ => (pg_name (i := 2) S_Maze.nd rfl (by first | exact Or.inl rfl | exact Or.inr rfl))) (fun _ _ _ _ _ => ets_nil) (fun _ _ _ _ _ => (ef_bi call_isi c_isi T.b_isinstance (ec_cons ((ef_var 2)).b (ec_cons ((ef_bty T.b_str)).b ec_nil)))))).b ec_nil))))))).t (ss_one (ss_raiseE rfl tk T.ra_BadMaze.ra)) ss_nil)
    (ss_cons (ss_if (ew_or (et_not (et_chain (op_leX (un65 hr)) (op_leX (un65 hr)) o_leX o_leX (ef_int).b ((ef_bi call_lenX c_lenX T.b_len (ec_cons ((ef_ix (ix_any (un65 hr)) o_ixX ((ef_var 1)).b (ef_int).b)).b ec_nil))).b ((ef_gint T.i_MOST)).b)) (ew_or1 (et_not (et_val (ef_bi (cr_all rfl) c_all T.b_all (ec_cons ((en_lc rfl S_Maze.nd (ei_any (ef_var 1)) (blkOk_by (own := [("row", 2)]) (by kernel_rfl)) (tg_name 2) (fun _ _ _ _ _ => (pg_name (i := 2) S_Maze.nd rfl (by first | exact Or.inl rfl | exact Or.inr rfl))) (fun _ _ _ _ _ => ets_nil) (fun _ _ _ _ _ => (ef_cmp (op_eqA hr.units) o_eq ((ef_bi call_lenX c_lenX T.b_len (ec_cons ((ef_var 2)).b ec_nil))).b ((ef_bi call_lenX c_lenX T.b_len (ec_cons ((ef_ix (ix_any (un65 hr)) o_ixX ((ef_var 1)).b (ef_int).b)).b ec_nil))).b rfl)))).b ec_nil)))))).t (ss_one (ss_raiseE rfl tk T.ra_BadMaze.ra)) ss_nil)
    (ss_cons (ss_if (et_not (et_val (ef_bi (cr_all rfl) c_all T.b_all (ec_cons ((en_lc rfl S_Maze.nd (ei_any (ef_var 1)) (blkOk_by (own := [("row", 2)]) (by kernel_rfl)) (tg_name 2) (fun _ _ _ _ _ => (pg_name (i := 2) S_Maze.nd rfl (by first | exact Or.inl rfl | exact Or.inr rfl))) (fun _ _ _ _ _ => ets_nil) (fun _ _ _ _ _ => (ef_cmp (op_eqA hr.units) o_eq ((ef_bi call_lenX c_lenX T.b_len (ec_cons ((en_lc rfl S_Maze.nd (ei_any (ef_var 2)) (blkOk_by (own := [("sign", 3)]) (by kernel_rfl)) (tg_name 3) (fun _ _ _ _ _ => (pg_name (i := 3) S_Maze.nd rfl (by first | exact Or.inl rfl | exact Or.inr rfl))) (fun _ _ _ _ _ => (ets_one (et_knotin T.t_OTHERS T.g_OTHERS (ef_var 3)))) (fun _ _ _ _ _ => (ef_var 3)))).b ec_nil))).b (ef_int).b rfl)))).b ec_nil)))) (ss_one (ss_raiseE rfl tk T.ra_BadMaze.ra)) ss_nil)
    (ss_cons (ss_fld 0 T.fld_Maze_rows (ef_var 1))
    (ss_cons (ss_fld 0 T.fld_Maze_height (ef_bi call_lenX c_lenX T.b_len (ec_cons ((ef_var 1)).b ec_nil)))
    (ss_one (ss_fld 0 T.fld_Maze_width (ef_bi call_lenX c_lenX T.b_len (ec_cons ((ef_ix (ix_any (un65 hr)) o_ixX ((ef_var 1)).b (ef_int).b)).b ec_nil)))))))))
theorem S_is_cell : FnScope ["maze", "value"] ["maze", "value"] (defScope (top 11)) := ⟨rfl, rfl, rfl, by decide +kernel, rfl, by decide +kernel, by decide +kernel⟩
theorem ok_is_cell (T : Facts w K mg) : FnP P w K mg base 2 (He.ga K "is_cell") ["maze", "value"] (spF K F_is_cell) := by
  obtain ⟨⟨fd_is_whole, G_is_whole, b_is_whole, _⟩, kp_is_whole⟩ := ok_is_whole T (P := P) (base := base)
  refine T.d_is_cell.f S_is_cell fun cdv A outer s H E hr => ?_
  have tk := L2.takes_of (X := cxOf (L2.CX P w) P w K mg base ["maze", "value"] "is_cell" (defScope (top 11)) (He.ga K "is_cell") cdv A outer s H E) rfl rfl rfl rfl
  have hx := fun σ => L2.passAt tk σ
  have own := L2.passes_of (X := cxOf (L2.CX P w) P w K mg base ["maze", "value"] "is_cell" (defScope (top 11)) (He.ga K "is_cell") cdv A outer s H E) rfl
  exact (ss_cons (ss_if (ew_or (et_not (et_val (ef_bi call_isi c_isi T.b_isinstance (ec_cons ((ef_var 1)).b (ec_cons ((ef_bty T.b_tuple)).b ec_nil))))) (ew_or1 (et_cmp (op_neA hr.units) o_ne ((ef_bi call_lenX c_lenX T.b_len (ec_cons ((ef_var 1)).b ec_nil))).b (ef_int).b rfl))).t (ss_one (ss_ret ef_bl)) ss_nil)
    (ss_one (ss_ret (ef_and (ef_call G_is_whole (hr.mono (by decide : 1 ≤ 1)) T.g_is_whole kp_is_whole b_is_whole hx (ea_cons (ef_ix (ix_any (un65 hr)) o_ixX ((ef_var 1)).b (ef_int).b) (ea_cons ef_int (ea_cons (ef_op op_sub o_sub ((ef_fld (cons_of T.fld_Maze_height none_of) ((ef_var 0)).b)).b (ef_int).b) ea_nil)))) (ef_one (ef_call G_is_whole (hr.mono (by decide : 1 ≤ 1)) T.g_is_whole kp_is_whole b_is_whole hx (ea_cons (ef_ix (ix_any (un65 hr)) o_ixX ((ef_var 1)).b (ef_int).b) (ea_cons ef_int (ea_cons (ef_op op_sub o_sub ((ef_fld (cons_of T.fld_Maze_width none_of) ((ef_var 0)).b)).b (ef_int).b) ea_nil)))))))))
theorem S_is_open : FnScope ["maze", "cell"] ["maze", "cell"] (defScope (top 12)) := ⟨rfl, rfl, rfl, by decide +kernel, rfl, by decide +kernel, by decide +kernel⟩
theorem ok_is_open (T : Facts w K mg) : FnP P w K mg base 3 (He.ga K "is_open") ["maze", "cell"] (spF K F_is_open) := by
  obtain ⟨⟨fd_is_cell, G_is_cell, b_is_cell, _⟩, kp_is_cell⟩ := ok_is_cell T (P := P) (base := base)
  refine T.d_is_open.f S_is_open fun cdv A outer s H E hr => ?_
  have tk := L2.takes_of (X := cxOf (L2.CX P w) P w K mg base ["maze", "cell"] "is_open" (defScope (top 12)) (He.ga K "is_open") cdv A outer s H E) rfl rfl rfl rfl
  have hx := fun σ => L2.passAt tk σ
  have own := L2.passes_of (X := cxOf (L2.CX P w) P w K mg base ["maze", "cell"] "is_open" (defScope (top 12)) (He.ga K "is_open") cdv A outer s H E) rfl
  exact (ss_one (ss_ret (ef_and (ef_call G_is_cell (hr.mono (by decide : 2 ≤ 2)) T.g_is_cell kp_is_cell b_is_cell hx (ea_cons (ef_var 0) (ea_cons (ef_var 1) ea_nil))) (ef_one (ef_cmp (op_eqA hr.units) o_eq ((ef_ix (ix_any (un65 hr)) o_ixX ((ef_ix (ix_any (un65 hr)) o_ixX ((ef_fld (cons_of T.fld_Maze_rows none_of) ((ef_var 0)).b)).b ((ef_ix (ix_any (un65 hr)) o_ixX ((ef_var 1)).b (ef_int).b)).b)).b ((ef_ix (ix_any (un65 hr)) o_ixX ((ef_var 1)).b (ef_int).b)).b)).b ((ef_gstr T.s_OPEN)).b rfl)))))
theorem S_check_open : FnScope ["maze", "values", "value"] ["maze", "values"] (defScope (top 13)) := ⟨rfl, rfl, rfl, by decide +kernel, rfl, by decide +kernel, by decide +kernel⟩
theorem ok_check_open (T : Facts w K mg) : FnP P w K mg base 4 (He.ga K "check_open") ["maze", "values"] (spF K F_check_open) := by
  obtain ⟨⟨fd_is_open, G_is_open, b_is_open, _⟩, kp_is_open⟩ := ok_is_open T (P := P) (base := base)
  refine T.d_check_open.f S_check_open fun cdv A outer s H E hr => ?_
  have tk := L2.takes_of (X := cxOf (L2.CX P w) P w K mg base ["maze", "values", "value"] "check_open" (defScope (top 13)) (He.ga K "check_open") cdv A outer s H E) rfl rfl rfl rfl
  have hx := fun σ => L2.passAt tk σ
  have own := L2.passes_of (X := cxOf (L2.CX P w) P w K mg base ["maze", "values", "value"] "check_open" (defScope (top 13)) (He.ga K "check_open") cdv A outer s H E) rfl
  exact (ss_one (ss_if (et_not (et_val (ef_bi (cr_all rfl) c_all T.b_all (ec_cons ((en_lc rfl S_check_open.nd (ei_any (ef_var 1)) (blkOk_by (own := [("value", 2)]) (by kernel_rfl)) (tg_name 2) (fun _ _ _ _ _ => (pg_name (i := 2) S_check_open.nd rfl (by first | exact Or.inl rfl | exact Or.inr rfl))) (fun _ _ _ _ _ => ets_nil) (fun _ _ _ _ _ => (ef_call G_is_open (hr.mono (by decide : 3 ≤ 3)) T.g_is_open kp_is_open b_is_open passB (ea_cons (ef_var 0) (ea_cons (ef_var 2) ea_nil)))))).b ec_nil)))) (ss_one (ss_raiseE rfl tk T.ra_BadCell.ra)) ss_nil))
theorem S_is_word : FnScope ["value", "sign"] ["value"] (defScope (top 17)) := ⟨rfl, rfl, rfl, by decide +kernel, rfl, by decide +kernel, by decide +kernel⟩
theorem ok_is_word (T : Facts w K mg) : FnP P w K mg base 1 (He.ga K "is_word") ["value"] (spF K F_is_word) := by
  refine T.d_is_word.f S_is_word fun cdv A outer s H E hr => ?_
  have tk := L2.takes_of (X := cxOf (L2.CX P w) P w K mg base ["value", "sign"] "is_word" (defScope (top 17)) (He.ga K "is_word") cdv A outer s H E) rfl rfl rfl rfl
  have hx := fun σ => L2.passAt tk σ
  have own := L2.passes_of (X := cxOf (L2.CX P w) P w K mg base ["value", "sign"] "is_word" (defScope (top 17)) (He.ga K "is_word") cdv A outer s H E) rfl
  exact (ss_one (ss_ret (ef_and (ef_bi call_isi c_isi T.b_isinstance (ec_cons ((ef_var 0)).b (ec_cons ((ef_bty T.b_str)).b ec_nil))) (ef_one (ef_bi (cr_all rfl) c_all T.b_all (ec_cons ((en_lc rfl S_is_word.nd (ei_any (ef_var 0)) (blkOk_by (own := [("sign", 1)]) (by kernel_rfl)) (tg_name 1) (fun _ _ _ _ _ => (pg_name (i := 1) S_is_word.nd rfl (by first | exact Or.inl rfl | exact Or.inr rfl))) (fun _ _ _ _ _ => ets_nil) (fun _ _ _ _ _ => (ef_kin T.t_STEPS T.g_STEPS (ef_var 1))))).b ec_nil))))))
theorem S__check : FnScope ["maze", "cell", "word"] ["maze", "cell", "word"] (defScope (top 18)) := ⟨rfl, rfl, rfl, by decide +kernel, rfl, by decide +kernel, by decide +kernel⟩
theorem ok__check (T : Facts w K mg) : FnP P w K mg base 5 (He.ga K "_check") ["maze", "cell", "word"] (spF K F__check) := by
  obtain ⟨⟨fd_check_open, G_check_open, b_check_open, _⟩, kp_check_open⟩ := ok_check_open T (P := P) (base := base)
  obtain ⟨⟨fd_is_word, G_is_word, b_is_word, _⟩, kp_is_word⟩ := ok_is_word T (P := P) (base := base)
  refine T.d__check.f S__check fun cdv A outer s H E hr => ?_
  have tk := L2.takes_of (X := cxOf (L2.CX P w) P w K mg base ["maze", "cell", "word"] "_check" (defScope (top 18)) (He.ga K "_check") cdv A outer s H E) rfl rfl rfl rfl
  have hx := fun σ => L2.passAt tk σ
  have own := L2.passes_of (X := cxOf (L2.CX P w) P w K mg base ["maze", "cell", "word"] "_check" (defScope (top 18)) (He.ga K "_check") cdv A outer s H E) rfl
  exact (ss_cons (ss_expr (ef_call G_check_open (hr.mono (by decide : 4 ≤ 4)) T.g_check_open kp_check_open b_check_open hx (ea_cons (ef_var 0) (ea_cons ((en_lst (ea_cons (ef_var 1) ea_nil))).fz ea_nil))))
    (ss_one (ss_if (et_not (et_val (ef_call G_is_word (hr.mono (by decide : 1 ≤ 4)) T.g_is_word kp_is_word b_is_word hx (ea_cons (ef_var 2) ea_nil)))) (ss_one (ss_raiseE rfl tk T.ra_BadWord.ra)) ss_nil)))
theorem S_stepped : FnScope ["maze", "cell", "sign", "down", "across", "there"] ["maze", "cell", "sign"] (defScope (top 19)) := ⟨rfl, rfl, rfl, by decide +kernel, rfl, by decide +kernel, by decide +kernel⟩
theorem ok_stepped (T : Facts w K mg) : FnP P w K mg base 4 (He.ga K "stepped") ["maze", "cell", "sign"] (spF K F_stepped) := by
  obtain ⟨⟨fd_is_open, G_is_open, b_is_open, _⟩, kp_is_open⟩ := ok_is_open T (P := P) (base := base)
  refine T.d_stepped.f S_stepped fun cdv A outer s H E hr => ?_
  have tk := L2.takes_of (X := cxOf (L2.CX P w) P w K mg base ["maze", "cell", "sign", "down", "across", "there"] "stepped" (defScope (top 19)) (He.ga K "stepped") cdv A outer s H E) rfl rfl rfl rfl
  have hx := fun σ => L2.passAt tk σ
  have own := L2.passes_of (X := cxOf (L2.CX P w) P w K mg base ["maze", "cell", "sign", "down", "across", "there"] "stepped" (defScope (top 19)) (He.ga K "stepped") cdv A outer s H E) rfl
  exact (ss_cons (ss_asg (vs := [3, 4]) (ef_kget T.t_STEPS T.g_STEPS (ef_var 2)) (pg_tup rfl (pgs_cons (pg_name (i := 3) S_stepped.nd rfl (by first | exact Or.inl rfl | exact Or.inr rfl)) (pgs_cons (pg_name (i := 4) S_stepped.nd rfl (by first | exact Or.inl rfl | exact Or.inr rfl)) pgs_nil))) (tg_tup (tgs_cons (tg_name 3) (tgs_cons (tg_name 4) tgs_nil))))
    (ss_cons (ss_set 5 (ef_tup (ea_cons (ef_op op_addA o_add ((ef_ix (ix_any (un65 hr)) o_ixX ((ef_var 1)).b (ef_int).b)).b ((ef_var 3)).b) (ea_cons (ef_op op_addA o_add ((ef_ix (ix_any (un65 hr)) o_ixX ((ef_var 1)).b (ef_int).b)).b ((ef_var 4)).b) ea_nil))) S_stepped.nd)
    (ss_one (ss_ret (ef_if (et_val (ef_call G_is_open (hr.mono (by decide : 3 ≤ 3)) T.g_is_open kp_is_open b_is_open hx (ea_cons (ef_var 0) (ea_cons (ef_var 5) ea_nil)))) (ef_var 5) (ef_var 1))))))
theorem S_told : FnScope ["maze", "cell", "word", "signs", "sign", "there"] ["maze", "cell", "word"] (defScope (top 20)) := ⟨rfl, rfl, rfl, by decide +kernel, rfl, by decide +kernel, by decide +kernel⟩
theorem ok_told (T : Facts w K mg) : FnP P w K mg base 5 (He.ga K "told") ["maze", "cell", "word"] (spF K F_told) := by
  obtain ⟨⟨fd_stepped, G_stepped, b_stepped, _⟩, kp_stepped⟩ := ok_stepped T (P := P) (base := base)
  refine T.d_told.f S_told fun cdv A outer s H E hr => ?_
  have tk := L2.takes_of (X := cxOf (L2.CX P w) P w K mg base ["maze", "cell", "word", "signs", "sign", "there"] "told" (defScope (top 20)) (He.ga K "told") cdv A outer s H E) rfl rfl rfl rfl
  have hx := fun σ => L2.passAt tk σ
  have own := L2.passes_of (X := cxOf (L2.CX P w) P w K mg base ["maze", "cell", "word", "signs", "sign", "there"] "told" (defScope (top 20)) (He.ga K "told") cdv A outer s H E) rfl
  exact (ss_cons (ss_set 3 ef_str S_told.nd)
    (ss_cons (ss_for (vs := [4]) own rfl (ei_any (ef_var 2)) (pg_name (i := 4) S_told.nd rfl (by first | exact Or.inl rfl | exact Or.inr rfl)) (tg_name 4)
    (ss_cons (ss_set 5 (ef_call G_stepped (hr.mono (by decide : 4 ≤ 4)) T.g_stepped kp_stepped b_stepped hx (ea_cons (ef_var 0) (ea_cons (ef_var 1) (ea_cons (ef_var 4) ea_nil)))) S_told.nd)
    (ss_cons (ss_set 3 (ef_op op_addA o_add ((ef_var 3)).b ((ef_if (et_cmp (op_eqA hr.units) o_eq ((ef_var 5)).b ((ef_var 1)).b rfl) ef_str ef_str)).b) S_told.nd)
    (ss_one (ss_set 1 (ef_var 5) S_told.nd)))))
    (ss_one (ss_ret (ef_var 3)))))
theorem S_report : FnScope ["maze", "cell", "word"] ["maze", "cell", "word"] (defScope (top 21)) := ⟨rfl, rfl, rfl, by decide +kernel, rfl, by decide +kernel, by decide +kernel⟩
theorem ok_report (T : Facts w K mg) : FnP P w K mg base 6 (He.ga K "report") ["maze", "cell", "word"] (spF K F_report) := by
  obtain ⟨⟨fd__check, G__check, b__check, _⟩, kp__check⟩ := ok__check T (P := P) (base := base)
  obtain ⟨⟨fd_told, G_told, b_told, _⟩, kp_told⟩ := ok_told T (P := P) (base := base)
  refine T.d_report.f S_report fun cdv A outer s H E hr => ?_
  have tk := L2.takes_of (X := cxOf (L2.CX P w) P w K mg base ["maze", "cell", "word"] "report" (defScope (top 21)) (He.ga K "report") cdv A outer s H E) rfl rfl rfl rfl
  have hx := fun σ => L2.passAt tk σ
  have own := L2.passes_of (X := cxOf (L2.CX P w) P w K mg base ["maze", "cell", "word"] "report" (defScope (top 21)) (He.ga K "report") cdv A outer s H E) rfl
  exact (ss_cons (ss_expr (ef_call G__check (hr.mono (by decide : 5 ≤ 5)) T.g__check kp__check b__check hx (ea_cons (ef_var 0) (ea_cons (ef_var 1) (ea_cons (ef_var 2) ea_nil)))))
    (ss_one (ss_ret (ef_call G_told (hr.mono (by decide : 5 ≤ 5)) T.g_told kp_told b_told hx (ea_cons (ef_var 0) (ea_cons (ef_var 1) (ea_cons (ef_var 2) ea_nil)))))))
theorem S_are_pairs : FnScope ["maze", "value", "one", "other", "at"] ["maze", "value"] (defScope (top 22)) := ⟨rfl, rfl, rfl, by decide +kernel, rfl, by decide +kernel, by decide +kernel⟩
theorem ok_are_pairs (T : Facts w K mg) : FnP P w K mg base 4 (He.ga K "are_pairs") ["maze", "value"] (spF K F_are_pairs) := by
  obtain ⟨⟨fd_is_open, G_is_open, b_is_open, _⟩, kp_is_open⟩ := ok_is_open T (P := P) (base := base)
  refine T.d_are_pairs.f S_are_pairs fun cdv A outer s H E hr => ?_
  have tk := L2.takes_of (X := cxOf (L2.CX P w) P w K mg base ["maze", "value", "one", "other", "at"] "are_pairs" (defScope (top 22)) (He.ga K "are_pairs") cdv A outer s H E) rfl rfl rfl rfl
  have hx := fun σ => L2.passAt tk σ
  have own := L2.passes_of (X := cxOf (L2.CX P w) P w K mg base ["maze", "value", "one", "other", "at"] "are_pairs" (defScope (top 22)) (He.ga K "are_pairs") cdv A outer s H E) rfl
  exact (ss_cons (ss_if (ew_or (et_not (et_val (ef_bi call_isi c_isi T.b_isinstance (ec_cons ((ef_var 1)).b (ec_cons ((ef_bty T.b_tuple)).b ec_nil))))) (ew_or1 (et_not (et_val (ef_bi (cr_all rfl) c_all T.b_all (ec_cons ((en_lc rfl S_are_pairs.nd (ei_any (ef_var 1)) (blkOk_by (own := [("one", 2)]) (by kernel_rfl)) (tg_name 2) (fun _ _ _ _ _ => (pg_name (i := 2) S_are_pairs.nd rfl (by first | exact Or.inl rfl | exact Or.inr rfl))) (fun _ _ _ _ _ => ets_nil) (fun _ _ _ _ _ => (ef_and (ef_bi call_isi c_isi T.b_isinstance (ec_cons ((ef_var 2)).b (ec_cons ((ef_bty T.b_tuple)).b ec_nil))) (ef_one (ef_cmp (op_eqA hr.units) o_eq ((ef_bi call_lenX c_lenX T.b_len (ec_cons ((ef_var 2)).b ec_nil))).b (ef_int).b rfl)))))).b ec_nil)))))).t (ss_one (ss_ret ef_bl)) ss_nil)
    (ss_cons (ss_if (et_not (et_val (ef_bi (cr_all rfl) c_all T.b_all (ec_cons ((en_lc rfl S_are_pairs.nd (ei_any (ef_var 1)) (blkOk_by (own := [("one", 2), ("other", 3)]) (by kernel_rfl)) (tg_tup (tgs_cons (tg_name 2) (tgs_cons (tg_name 3) tgs_nil))) (fun _ _ _ _ _ => (pg_tup rfl (pgs_cons (pg_name (i := 2) S_are_pairs.nd rfl (by first | exact Or.inl rfl | exact Or.inr rfl)) (pgs_cons (pg_name (i := 3) S_are_pairs.nd rfl (by first | exact Or.inl rfl | exact Or.inr rfl)) pgs_nil)))) (fun _ _ _ _ _ => ets_nil) (fun _ _ _ _ _ => (ef_and (ef_call G_is_open (hr.mono (by decide : 3 ≤ 3)) T.g_is_open kp_is_open b_is_open passB (ea_cons (ef_var 0) (ea_cons (ef_var 2) ea_nil))) (ef_and (ef_call G_is_open (hr.mono (by decide : 3 ≤ 3)) T.g_is_open kp_is_open b_is_open passB (ea_cons (ef_var 0) (ea_cons (ef_var 3) ea_nil))) (ef_one (ef_cmp (op_ltX (un65 hr)) o_ltX ((ef_var 2)).b ((ef_var 3)).b rfl))))))).b ec_nil)))) (ss_one (ss_ret ef_bl)) ss_nil)
    (ss_one (ss_ret (ef_bi (cr_all rfl) c_all T.b_all (ec_cons ((en_lc rfl S_are_pairs.nd (ei_range1 T.b_range (ea_cons (ef_op op_sub o_sub ((ef_bi call_lenX c_lenX T.b_len (ec_cons ((ef_var 1)).b ec_nil))).b (ef_int).b) ea_nil)) (blkOk_by (own := [("at", 4)]) (by kernel_rfl)) (tg_name 4) (fun _ _ _ _ _ => (pg_name (i := 4) S_are_pairs.nd rfl (by first | exact Or.inl rfl | exact Or.inr rfl))) (fun _ _ _ _ _ => ets_nil) (fun _ _ _ _ _ => (ef_cmp (op_ltX (un65 hr)) o_ltX ((ef_ix (ix_any (un65 hr)) o_ixX ((ef_var 1)).b ((ef_var 4)).b)).b ((ef_ix (ix_any (un65 hr)) o_ixX ((ef_var 1)).b ((ef_op op_addA o_add ((ef_var 4)).b (ef_int).b)).b)).b rfl)))).b ec_nil))))))
theorem S_alike_fault : FnScope ["maze", "pairs", "known", "one", "other", "sign", "here", "there", "is_apart", "pair"] ["maze", "pairs"] (defScope (top 24)) := ⟨rfl, rfl, rfl, by decide +kernel, rfl, by decide +kernel, by decide +kernel⟩
theorem ok_alike_fault (T : Facts w K mg) : FnP P w K mg base 5 (He.ga K "alike_fault") ["maze", "pairs"] (spF K F_alike_fault) := by
  obtain ⟨⟨fd_are_pairs, G_are_pairs, b_are_pairs, _⟩, kp_are_pairs⟩ := ok_are_pairs T (P := P) (base := base)
  obtain ⟨⟨fd_stepped, G_stepped, b_stepped, _⟩, kp_stepped⟩ := ok_stepped T (P := P) (base := base)
  refine T.d_alike_fault.f S_alike_fault fun cdv A outer s H E hr => ?_
  have tk := L2.takes_of (X := cxOf (L2.CX P w) P w K mg base ["maze", "pairs", "known", "one", "other", "sign", "here", "there", "is_apart", "pair"] "alike_fault" (defScope (top 24)) (He.ga K "alike_fault") cdv A outer s H E) rfl rfl rfl rfl
  have hx := fun σ => L2.passAt tk σ
  have own := L2.passes_of (X := cxOf (L2.CX P w) P w K mg base ["maze", "pairs", "known", "one", "other", "sign", "here", "there", "is_apart", "pair"] "alike_fault" (defScope (top 24)) (He.ga K "alike_fault") cdv A outer s H E) rfl
  exact (ss_cons (ss_if (et_not (et_val (ef_call G_are_pairs (hr.mono (by decide : 4 ≤ 4)) T.g_are_pairs kp_are_pairs b_are_pairs hx (ea_cons (ef_var 0) (ea_cons (ef_var 1) ea_nil))))) (ss_one (ss_ret (ef_tup (ea_cons ef_str ea_nil)))) ss_nil)
    (ss_cons (ss_setDc 2 (un65 hr) rfl S_alike_fault.nd rfl (sw_trueD rfl rfl rfl (by decide +kernel)) (ei_any (ef_var 1)) (blkOk_by (own := [("pair", 9)]) (by kernel_rfl)) (tg_name 9) (fun _ _ _ _ _ => (pg_name (i := 9) S_alike_fault.nd rfl (by first | exact Or.inl rfl | exact Or.inr rfl))) (fun _ _ _ _ _ => ets_nil) (fun _ _ _ _ _ => (ef_var 9)) (fun _ _ _ _ _ => ef_bl))
    (ss_cons (ss_for (vs := [3, 4]) own rfl (ei_any (ef_var 1)) (pg_tup rfl (pgs_cons (pg_name (i := 3) S_alike_fault.nd rfl (by first | exact Or.inl rfl | exact Or.inr rfl)) (pgs_cons (pg_name (i := 4) S_alike_fault.nd rfl (by first | exact Or.inl rfl | exact Or.inr rfl)) pgs_nil))) (tg_tup (tgs_cons (tg_name 3) (tgs_cons (tg_name 4) tgs_nil)))
    (ss_one (ss_for (vs := [5]) own rfl (ei_any (ef_gstr T.s_SIGNS)) (pg_name (i := 5) S_alike_fault.nd rfl (by first | exact Or.inl rfl | exact Or.inr rfl)) (tg_name 5)
    (ss_cons (ss_par 6 7 (ef_call G_stepped (hr.mono (by decide : 4 ≤ 4)) T.g_stepped kp_stepped b_stepped hx (ea_cons (ef_var 0) (ea_cons (ef_var 3) (ea_cons (ef_var 5) ea_nil)))) (ef_call G_stepped (hr.mono (by decide : 4 ≤ 4)) T.g_stepped kp_stepped b_stepped hx (ea_cons (ef_var 0) (ea_cons (ef_var 4) (ea_cons (ef_var 5) ea_nil)))) rfl S_alike_fault.nd)
    (ss_cons (ss_set 8 (ef_and (ef_cmp (op_neA hr.units) o_ne ((ef_var 6)).b ((ef_var 7)).b rfl) (ef_one (ef_cmp (op_notInX (un65 hr)) o_notInX ((ef_tup (ea_cons (ef_bi (call_minX rfl (un65 hr)) c_minX T.b_min (ec_cons ((ef_var 6)).b (ec_cons ((ef_var 7)).b ec_nil))) (ea_cons (ef_bi (call_maxX rfl (un65 hr)) c_maxX T.b_max (ec_cons ((ef_var 6)).b (ec_cons ((ef_var 7)).b ec_nil))) ea_nil)))).b ((ef_var 2)).b rfl))) S_alike_fault.nd)
    (ss_one (ss_if (ew_or (et_cmp (op_neA hr.units) o_ne ((ef_cmp (op_eqA hr.units) o_eq ((ef_var 6)).b ((ef_var 3)).b rfl)).b ((ef_cmp (op_eqA hr.units) o_eq ((ef_var 7)).b ((ef_var 4)).b rfl)).b rfl) (ew_or1 (et_val (ef_var 8)))).t (ss_one (ss_ret (ef_tup (ea_cons ef_str (ea_cons (ef_var 3) (ea_cons (ef_var 4) (ea_cons (ef_var 5) ea_nil))))))) ss_nil)))))))
    (ss_one (ss_ret ef_non)))))
theorem S__law_draws : FnScope ["script", "many", "draws", "seed", "cell", "number", "k"] ["script", "many"] (defScope (top 26)) := ⟨rfl, rfl, rfl, by decide +kernel, rfl, by decide +kernel, by decide +kernel⟩
theorem ok__law_draws (T : Facts w K mg) : FnP P w K mg base 1 (He.ga K "_law_draws") ["script", "many"] (spF K F__law_draws) := by
  refine T.d__law_draws.f S__law_draws fun cdv A outer s H E hr => ?_
  have tk := L2.takes_of (X := cxOf (L2.CX P w) P w K mg base ["script", "many", "draws", "seed", "cell", "number", "k"] "_law_draws" (defScope (top 26)) (He.ga K "_law_draws") cdv A outer s H E) rfl rfl rfl rfl
  have hx := fun σ => L2.passAt tk σ
  have own := L2.passes_of (X := cxOf (L2.CX P w) P w K mg base ["script", "many", "draws", "seed", "cell", "number", "k"] "_law_draws" (defScope (top 26)) (He.ga K "_law_draws") cdv A outer s H E) rfl
  exact (ss_cons (ss_setO 2 (en_lst ea_nil) S__law_draws.nd)
    (ss_cons (ss_set 3 ef_int S__law_draws.nd)
    (ss_cons (ss_for (vs := [4]) own rfl (ei_any (ef_sl sl_any s_any ((ef_var 0)).b eo_none (eo_some ef_int))) (pg_name (i := 4) S__law_draws.nd rfl (by first | exact Or.inl rfl | exact Or.inr rfl)) (tg_name 4)
    (ss_cons (ss_set 5 (ef_bi call_abs c_abs T.b_abs (ec_cons ((ef_var 4)).b ec_nil)) S__law_draws.nd)
    (ss_cons (ss_set 3 (ef_op op_mod o_mod ((ef_bt call_int1 c_int T.b_int (ec_cons ((ef_op op_addA o_add ((ef_op op_addA o_add ((ef_op op_mulX' o_mulX ((ef_var 3)).b (ef_int).b)).b ((ef_var 5)).b)).b (ef_int).b)).b ec_nil))).b (ef_int).b) S__law_draws.nd)
    (ss_one (ss_if (et_cmp (op_geX (un65 hr)) o_geX ((ef_var 5)).b ((ef_op op_pow o_pow (ef_int).b (ef_int).b)).b rfl) (ss_one (ss_for (vs := [6]) own rfl (ei_range1 T.b_range (ea_cons ef_int ea_nil)) (pg_name (i := 6) S__law_draws.nd rfl (by first | exact Or.inl rfl | exact Or.inr rfl)) (tg_name 6)
    (ss_one (ss_if (et_cmp (op_gtX (un65 hr)) o_gtX ((ef_var 5)).b (ef_int).b rfl) (ss_cons (ss_app 2 (ef_op op_mod o_mod ((ef_bt call_int1 c_int T.b_int (ec_cons ((ef_var 5)).b ec_nil))).b (ef_int).b))
    (ss_one (ss_set 5 (ef_op op_fdiv o_div ((ef_var 5)).b (ef_int).b) S__law_draws.nd))) ss_nil)))) (ss_one (ss_app 2 (ef_op op_mod o_mod ((ef_op op_fdiv o_div ((ef_bt call_int1 c_int T.b_int (ec_cons ((ef_op op_addA o_add ((ef_op op_mulX' o_mulX ((ef_var 3)).b (ef_int).b)).b (ef_int).b)).b ec_nil))).b (ef_int).b)).b (ef_int).b))))))))
    (ss_cons (ss_for (vs := [6]) own rfl (ei_range1 T.b_range (ea_cons (ef_var 1) ea_nil)) (pg_name (i := 6) S__law_draws.nd rfl (by first | exact Or.inl rfl | exact Or.inr rfl)) (tg_name 6)
    (ss_one (ss_if (et_cmp (op_ltX (un65 hr)) o_ltX ((ef_bi call_lenX c_lenX T.b_len (ec_cons (eb_var 2) ec_nil))).b ((ef_var 1)).b rfl) (ss_cons (ss_set 3 (ef_op op_mod o_mod ((ef_bt call_int1 c_int T.b_int (ec_cons ((ef_op op_addA o_add ((ef_op op_addA o_add ((ef_op op_mulX' o_mulX ((ef_var 3)).b (ef_int).b)).b ((ef_var 6)).b)).b (ef_int).b)).b ec_nil))).b (ef_int).b) S__law_draws.nd)
    (ss_one (ss_app 2 (ef_op op_mod o_mod ((ef_op op_fdiv o_div ((ef_bt call_int1 c_int T.b_int (ec_cons ((ef_var 3)).b ec_nil))).b (ef_int).b)).b (ef_int).b)))) ss_nil)))
    (ss_one (ss_ret (ef_sl sl_any s_any (eb_var 2) eo_none (eo_some (ef_var 1)))))))))
theorem S__law_rows : FnScope ["draws", "high", "wide", "found", "row", "draw", "k"] ["draws", "high", "wide"] (defScope (top 27)) := ⟨rfl, rfl, rfl, by decide +kernel, rfl, by decide +kernel, by decide +kernel⟩
theorem ok__law_rows (T : Facts w K mg) : FnP P w K mg base 1 (He.ga K "_law_rows") ["draws", "high", "wide"] (spF K F__law_rows) := by
  refine T.d__law_rows.f S__law_rows fun cdv A outer s H E hr => ?_
  have tk := L2.takes_of (X := cxOf (L2.CX P w) P w K mg base ["draws", "high", "wide", "found", "row", "draw", "k"] "_law_rows" (defScope (top 27)) (He.ga K "_law_rows") cdv A outer s H E) rfl rfl rfl rfl
  have hx := fun σ => L2.passAt tk σ
  have own := L2.passes_of (X := cxOf (L2.CX P w) P w K mg base ["draws", "high", "wide", "found", "row", "draw", "k"] "_law_rows" (defScope (top 27)) (He.ga K "_law_rows") cdv A outer s H E) rfl
  exact (ss_cons (ss_setO 3 (en_lst ea_nil) S__law_rows.nd)
    (ss_cons (ss_for (vs := [4]) own rfl (ei_range1 T.b_range (ea_cons (ef_var 1) ea_nil)) (pg_name (i := 4) S__law_rows.nd rfl (by first | exact Or.inl rfl | exact Or.inr rfl)) (tg_name 4)
    (ss_cons (ss_set 5 (ef_bt call_int1 c_int T.b_int (ec_cons ((ef_ix (ix_any (un65 hr)) o_ixX ((ef_var 0)).b ((ef_op op_addA o_add (ef_int).b ((ef_op op_mod o_mod ((ef_var 4)).b ((ef_op op_sub o_sub ((ef_bi call_lenX c_lenX T.b_len (ec_cons ((ef_var 0)).b ec_nil))).b (ef_int).b)).b)).b)).b)).b ec_nil)) S__law_rows.nd)
    (ss_one (ss_app 3 (ef_m1 PySem.F.slot_str_join PySem.F.type_str_join mt_join m_join (ef_str).b ((en_lc rfl S__law_rows.nd (ei_range1 T.b_range (ea_cons (ef_var 2) ea_nil)) (blkOk_by (own := [("k", 6)]) (by kernel_rfl)) (tg_name 6) (fun _ _ _ _ _ => (pg_name (i := 6) S__law_rows.nd rfl (by first | exact Or.inl rfl | exact Or.inr rfl))) (fun _ _ _ _ _ => ets_nil) (fun _ _ _ _ _ => (ef_if (et_cmp (op_ltX (un65 hr)) o_ltX ((ef_op op_mod o_mod ((ef_op op_fdiv o_div ((ef_bt call_int1 c_int T.b_int (ec_cons ((ef_op op_addA o_add ((ef_op op_addA o_add ((ef_op op_mulX' o_mulX ((ef_var 5)).b ((ef_op op_addA o_add ((ef_var 6)).b (ef_int).b)).b)).b ((ef_op op_mulX' o_mulX ((ef_var 6)).b (ef_int).b)).b)).b ((ef_op op_mulX' o_mulX ((ef_var 4)).b (ef_int).b)).b)).b ec_nil))).b (ef_int).b)).b (ef_int).b)).b ((ef_op op_mod o_mod ((ef_bt call_int1 c_int T.b_int (ec_cons ((ef_ix (ix_any (un65 hr)) o_ixX ((ef_var 0)).b (ef_int).b)).b ec_nil))).b (ef_int).b)).b rfl) ef_str ef_str)))).b)))))
    (ss_one (ss_ret (ef_bt call_tuple_of c_tuple T.b_tuple (ec_cons ((ef_op op_addA o_add ((en_lst (ea_cons (ef_op op_addA o_add (ef_str).b ((ef_sl sl_any s_any ((ef_ix (ix_any (un65 hr)) o_ixX (eb_var 3) (ef_int).b)).b (eo_some ef_int) eo_none)).b) ea_nil))).b ((ef_sl sl_any s_any (eb_var 3) (eo_some ef_int) eo_none)).b)).b ec_nil))))))
theorem S__law_cells : FnScope ["rows", "found", "row", "k"] ["rows"] (defScope (top 28)) := ⟨rfl, rfl, rfl, by decide +kernel, rfl, by decide +kernel, by decide +kernel⟩
theorem ok__law_cells (T : Facts w K mg) : FnP P w K mg base 1 (He.ga K "_law_cells") ["rows"] (spF K F__law_cells) := by
  refine T.d__law_cells.f S__law_cells fun cdv A outer s H E hr => ?_
  have tk := L2.takes_of (X := cxOf (L2.CX P w) P w K mg base ["rows", "found", "row", "k"] "_law_cells" (defScope (top 28)) (He.ga K "_law_cells") cdv A outer s H E) rfl rfl rfl rfl
  have hx := fun σ => L2.passAt tk σ
  have own := L2.passes_of (X := cxOf (L2.CX P w) P w K mg base ["rows", "found", "row", "k"] "_law_cells" (defScope (top 28)) (He.ga K "_law_cells") cdv A outer s H E) rfl
  exact (ss_cons (ss_set 1 ((en_lst ea_nil)).fz S__law_cells.nd)
    (ss_cons (ss_for (vs := [2]) own rfl (ei_range1 T.b_range (ea_cons (ef_bi call_lenX c_lenX T.b_len (ec_cons ((ef_var 0)).b ec_nil)) ea_nil)) (pg_name (i := 2) S__law_cells.nd rfl (by first | exact Or.inl rfl | exact Or.inr rfl)) (tg_name 2)
    (ss_one (ss_set 1 (ef_op op_addA o_add ((ef_var 1)).b ((en_lc rfl S__law_cells.nd (ei_range1 T.b_range (ea_cons (ef_bi call_lenX c_lenX T.b_len (ec_cons ((ef_ix (ix_any (un65 hr)) o_ixX ((ef_var 0)).b (ef_int).b)).b ec_nil)) ea_nil)) (blkOk_by (own := [("k", 3)]) (by kernel_rfl)) (tg_name 3) (fun _ _ _ _ _ => (pg_name (i := 3) S__law_cells.nd rfl (by first | exact Or.inl rfl | exact Or.inr rfl))) (fun _ _ _ _ _ => (ets_one (et_cmp (op_eqA hr.units) o_eq ((ef_ix (ix_any (un65 hr)) o_ixX ((ef_ix (ix_any (un65 hr)) o_ixX ((ef_var 0)).b ((ef_var 2)).b)).b ((ef_var 3)).b)).b (ef_str).b rfl))) (fun _ _ _ _ _ => (ef_tup (ea_cons (ef_var 2) (ea_cons (ef_var 3) ea_nil)))))).b) S__law_cells.nd)))
    (ss_one (ss_ret (ef_bt call_tuple_of c_tuple T.b_tuple (ec_cons ((ef_var 1)).b ec_nil))))))
theorem S__law_near : FnScope ["rows", "cell", "found", "step", "there"] ["rows", "cell"] (defScope (top 29)) := ⟨rfl, rfl, rfl, by decide +kernel, rfl, by decide +kernel, by decide +kernel⟩
theorem ok__law_near (T : Facts w K mg) : FnP P w K mg base 1 (He.ga K "_law_near") ["rows", "cell"] (spF K F__law_near) := by
  refine T.d__law_near.f S__law_near fun cdv A outer s H E hr => ?_
  have tk := L2.takes_of (X := cxOf (L2.CX P w) P w K mg base ["rows", "cell", "found", "step", "there"] "_law_near" (defScope (top 29)) (He.ga K "_law_near") cdv A outer s H E) rfl rfl rfl rfl
  have hx := fun σ => L2.passAt tk σ
  have own := L2.passes_of (X := cxOf (L2.CX P w) P w K mg base ["rows", "cell", "found", "step", "there"] "_law_near" (defScope (top 29)) (He.ga K "_law_near") cdv A outer s H E) rfl
  exact (ss_cons (ss_setO 2 (en_lst ea_nil) S__law_near.nd)
    (ss_cons (ss_for (vs := [3]) own rfl (ei_any ((en_lst (ea_cons (ef_tup (ea_cons (ef_neg (ef_int).b) (ea_cons ef_int ea_nil))) (ea_cons (ef_tup (ea_cons ef_int (ea_cons (ef_neg (ef_int).b) ea_nil))) (ea_cons (ef_tup (ea_cons ef_int (ea_cons ef_int ea_nil))) (ea_cons (ef_tup (ea_cons ef_int (ea_cons ef_int ea_nil))) ea_nil)))))).fz) (pg_name (i := 3) S__law_near.nd rfl (by first | exact Or.inl rfl | exact Or.inr rfl)) (tg_name 3)
    (ss_cons (ss_set 4 (ef_tup (ea_cons (ef_op op_addA o_add ((ef_ix (ix_any (un65 hr)) o_ixX ((ef_var 1)).b (ef_int).b)).b ((ef_ix (ix_any (un65 hr)) o_ixX ((ef_var 3)).b (ef_int).b)).b) (ea_cons (ef_op op_addA o_add ((ef_ix (ix_any (un65 hr)) o_ixX ((ef_var 1)).b (ef_int).b)).b ((ef_ix (ix_any (un65 hr)) o_ixX ((ef_var 3)).b (ef_int).b)).b) ea_nil))) S__law_near.nd)
    (ss_one (ss_if (ew_and (et_chain (op_leX (un65 hr)) (op_ltX (un65 hr)) o_leX o_ltX (ef_int).b ((ef_ix (ix_any (un65 hr)) o_ixX ((ef_var 4)).b (ef_int).b)).b ((ef_bi call_lenX c_lenX T.b_len (ec_cons ((ef_var 0)).b ec_nil))).b) (ew_and (et_chain (op_leX (un65 hr)) (op_ltX (un65 hr)) o_leX o_ltX (ef_int).b ((ef_ix (ix_any (un65 hr)) o_ixX ((ef_var 4)).b (ef_int).b)).b ((ef_bi call_lenX c_lenX T.b_len (ec_cons ((ef_ix (ix_any (un65 hr)) o_ixX ((ef_var 0)).b (ef_int).b)).b ec_nil))).b) (ew_and1 (et_cmp (op_eqA hr.units) o_eq ((ef_ix (ix_any (un65 hr)) o_ixX ((ef_ix (ix_any (un65 hr)) o_ixX ((ef_var 0)).b ((ef_ix (ix_any (un65 hr)) o_ixX ((ef_var 4)).b (ef_int).b)).b)).b ((ef_ix (ix_any (un65 hr)) o_ixX ((ef_var 4)).b (ef_int).b)).b)).b (ef_str).b rfl)))).t (ss_one (ss_app 2 (ef_var 4))) ss_nil))))
    (ss_one (ss_frz 2 (ss_ret (ef_var 2))))))
theorem S__law_step : FnScope ["rows", "cell", "sign", "step", "there"] ["rows", "cell", "sign"] (defScope (top 30)) := ⟨rfl, rfl, rfl, by decide +kernel, rfl, by decide +kernel, by decide +kernel⟩
theorem ok__law_step (T : Facts w K mg) : FnP P w K mg base 2 (He.ga K "_law_step") ["rows", "cell", "sign"] (spF K F__law_step) := by
  obtain ⟨⟨fd__law_near, G__law_near, b__law_near, _⟩, kp__law_near⟩ := ok__law_near T (P := P) (base := base)
  refine T.d__law_step.f S__law_step fun cdv A outer s H E hr => ?_
  have tk := L2.takes_of (X := cxOf (L2.CX P w) P w K mg base ["rows", "cell", "sign", "step", "there"] "_law_step" (defScope (top 30)) (He.ga K "_law_step") cdv A outer s H E) rfl rfl rfl rfl
  have hx := fun σ => L2.passAt tk σ
  have own := L2.passes_of (X := cxOf (L2.CX P w) P w K mg base ["rows", "cell", "sign", "step", "there"] "_law_step" (defScope (top 30)) (He.ga K "_law_step") cdv A outer s H E) rfl
  exact (ss_cons (ss_set 3 (ef_dispget (un1 hr) (EPs.cons (ef_tup (ea_cons ef_int (ea_cons ef_int ea_nil))) (EPs.cons (ef_tup (ea_cons ef_int (ea_cons (ef_neg (ef_int).b) ea_nil))) (EPs.cons (ef_tup (ea_cons ef_int (ea_cons ef_int ea_nil))) (EPs.cons (ef_tup (ea_cons (ef_neg (ef_int).b) (ea_cons ef_int ea_nil))) EPs.nil)))) (ef_var 2) (by intro ρ c h; exact absurd (show Res.ok _ = Res.exc c from h) (by intro z; cases z))) S__law_step.nd)
    (ss_cons (ss_set 4 (ef_tup (ea_cons (ef_op op_addA o_add ((ef_ix (ix_any (un65 hr)) o_ixX ((ef_var 1)).b (ef_int).b)).b ((ef_ix (ix_any (un65 hr)) o_ixX ((ef_var 3)).b (ef_int).b)).b) (ea_cons (ef_op op_addA o_add ((ef_ix (ix_any (un65 hr)) o_ixX ((ef_var 1)).b (ef_int).b)).b ((ef_ix (ix_any (un65 hr)) o_ixX ((ef_var 3)).b (ef_int).b)).b) ea_nil))) S__law_step.nd)
    (ss_one (ss_ret (ef_if (et_cmp (op_inX (un65 hr)) o_inX ((ef_var 4)).b ((ef_call G__law_near (hr.mono (by decide : 1 ≤ 1)) T.g__law_near kp__law_near b__law_near hx (ea_cons (ef_var 0) (ea_cons (ef_var 1) ea_nil)))).b rfl) (ef_var 4) (ef_var 1))))))
theorem S__law_led : FnScope ["rows", "cell", "word", "told_v", "sign", "there"] ["rows", "cell", "word"] (defScope (top 31)) := ⟨rfl, rfl, rfl, by decide +kernel, rfl, by decide +kernel, by decide +kernel⟩
theorem ok__law_led (T : Facts w K mg) : FnP P w K mg base 3 (He.ga K "_law_led") ["rows", "cell", "word"] (spF K F__law_led) := by
  obtain ⟨⟨fd__law_step, G__law_step, b__law_step, _⟩, kp__law_step⟩ := ok__law_step T (P := P) (base := base)
  refine T.d__law_led.f S__law_led fun cdv A outer s H E hr => ?_
  have tk := L2.takes_of (X := cxOf (L2.CX P w) P w K mg base ["rows", "cell", "word", "told_v", "sign", "there"] "_law_led" (defScope (top 31)) (He.ga K "_law_led") cdv A outer s H E) rfl rfl rfl rfl
  have hx := fun σ => L2.passAt tk σ
  have own := L2.passes_of (X := cxOf (L2.CX P w) P w K mg base ["rows", "cell", "word", "told_v", "sign", "there"] "_law_led" (defScope (top 31)) (He.ga K "_law_led") cdv A outer s H E) rfl
  exact (ss_cons (ss_set 3 ef_str S__law_led.nd)
    (ss_cons (ss_for (vs := [4]) own rfl (ei_any (ef_var 2)) (pg_name (i := 4) S__law_led.nd rfl (by first | exact Or.inl rfl | exact Or.inr rfl)) (tg_name 4)
    (ss_cons (ss_set 5 (ef_call G__law_step (hr.mono (by decide : 2 ≤ 2)) T.g__law_step kp__law_step b__law_step hx (ea_cons (ef_var 0) (ea_cons (ef_var 1) (ea_cons (ef_var 4) ea_nil)))) S__law_led.nd)
    (ss_one (ss_par 1 3 (ef_var 5) (ef_op op_addA o_add ((ef_var 3)).b ((ef_if (et_cmp (op_eqA hr.units) o_eq ((ef_var 5)).b ((ef_var 1)).b rfl) ef_str ef_str)).b) rfl S__law_led.nd))))
    (ss_one (ss_ret (ef_tup (ea_cons (ef_var 1) (ea_cons (ef_var 3) ea_nil)))))))
theorem S__law_pairs : FnScope ["cells", "found", "k", "other"] ["cells"] (defScope (top 32)) := ⟨rfl, rfl, rfl, by decide +kernel, rfl, by decide +kernel, by decide +kernel⟩
theorem ok__law_pairs (T : Facts w K mg) : FnP P w K mg base 1 (He.ga K "_law_pairs") ["cells"] (spF K F__law_pairs) := by
  refine T.d__law_pairs.f S__law_pairs fun cdv A outer s H E hr => ?_
  have tk := L2.takes_of (X := cxOf (L2.CX P w) P w K mg base ["cells", "found", "k", "other"] "_law_pairs" (defScope (top 32)) (He.ga K "_law_pairs") cdv A outer s H E) rfl rfl rfl rfl
  have hx := fun σ => L2.passAt tk σ
  have own := L2.passes_of (X := cxOf (L2.CX P w) P w K mg base ["cells", "found", "k", "other"] "_law_pairs" (defScope (top 32)) (He.ga K "_law_pairs") cdv A outer s H E) rfl
  exact (ss_cons (ss_set 1 ((en_lst ea_nil)).fz S__law_pairs.nd)
    (ss_cons (ss_for (vs := [2]) own rfl (ei_range1 T.b_range (ea_cons (ef_bi call_lenX c_lenX T.b_len (ec_cons ((ef_var 0)).b ec_nil)) ea_nil)) (pg_name (i := 2) S__law_pairs.nd rfl (by first | exact Or.inl rfl | exact Or.inr rfl)) (tg_name 2)
    (ss_one (ss_set 1 (ef_op op_addA o_add ((ef_var 1)).b ((en_lc rfl S__law_pairs.nd (ei_any (ef_sl sl_any s_any ((ef_var 0)).b (eo_some (ef_op op_addA o_add ((ef_var 2)).b (ef_int).b)) eo_none)) (blkOk_by (own := [("other", 3)]) (by kernel_rfl)) (tg_name 3) (fun _ _ _ _ _ => (pg_name (i := 3) S__law_pairs.nd rfl (by first | exact Or.inl rfl | exact Or.inr rfl))) (fun _ _ _ _ _ => ets_nil) (fun _ _ _ _ _ => (ef_tup (ea_cons (ef_ix (ix_any (un65 hr)) o_ixX ((ef_var 0)).b ((ef_var 2)).b) (ea_cons (ef_var 3) ea_nil)))))).b) S__law_pairs.nd)))
    (ss_one (ss_ret (ef_var 1)))))
theorem S__law_behind : FnScope ["rows", "pair", "sign"] ["rows", "pair", "sign"] (defScope (top 33)) := ⟨rfl, rfl, rfl, by decide +kernel, rfl, by decide +kernel, by decide +kernel⟩
theorem ok__law_behind (T : Facts w K mg) : FnP P w K mg base 3 (He.ga K "_law_behind") ["rows", "pair", "sign"] (spF K F__law_behind) := by
  obtain ⟨⟨fd__law_step, G__law_step, b__law_step, _⟩, kp__law_step⟩ := ok__law_step T (P := P) (base := base)
  refine T.d__law_behind.f S__law_behind fun cdv A outer s H E hr => ?_
  have tk := L2.takes_of (X := cxOf (L2.CX P w) P w K mg base ["rows", "pair", "sign"] "_law_behind" (defScope (top 33)) (He.ga K "_law_behind") cdv A outer s H E) rfl rfl rfl rfl
  have hx := fun σ => L2.passAt tk σ
  have own := L2.passes_of (X := cxOf (L2.CX P w) P w K mg base ["rows", "pair", "sign"] "_law_behind" (defScope (top 33)) (He.ga K "_law_behind") cdv A outer s H E) rfl
  exact (ss_one (ss_ret (ef_bt call_tuple_of c_tuple T.b_tuple (ec_cons ((en_bi (cr_sortedX rfl (un65 hr)) c_sortedX T.b_sorted (ec_cons ((en_lst (ea_cons (ef_call G__law_step (hr.mono (by decide : 2 ≤ 2)) T.g__law_step kp__law_step b__law_step hx (ea_cons (ef_var 0) (ea_cons (ef_ix (ix_any (un65 hr)) o_ixX ((ef_var 1)).b (ef_int).b) (ea_cons (ef_var 2) ea_nil)))) (ea_cons (ef_call G__law_step (hr.mono (by decide : 2 ≤ 2)) T.g__law_step kp__law_step b__law_step hx (ea_cons (ef_var 0) (ea_cons (ef_ix (ix_any (un65 hr)) o_ixX ((ef_var 1)).b (ef_int).b) (ea_cons (ef_var 2) ea_nil)))) ea_nil)))).b ec_nil))).b ec_nil))))
theorem S__law_is_cell : FnScope ["cells", "value", "one"] ["cells", "value"] (defScope (top 34)) := ⟨rfl, rfl, rfl, by decide +kernel, rfl, by decide +kernel, by decide +kernel⟩
theorem ok__law_is_cell (T : Facts w K mg) : FnP P w K mg base 1 (He.ga K "_law_is_cell") ["cells", "value"] (spF K F__law_is_cell) := by
  refine T.d__law_is_cell.f S__law_is_cell fun cdv A outer s H E hr => ?_
  have tk := L2.takes_of (X := cxOf (L2.CX P w) P w K mg base ["cells", "value", "one"] "_law_is_cell" (defScope (top 34)) (He.ga K "_law_is_cell") cdv A outer s H E) rfl rfl rfl rfl
  have hx := fun σ => L2.passAt tk σ
  have own := L2.passes_of (X := cxOf (L2.CX P w) P w K mg base ["cells", "value", "one"] "_law_is_cell" (defScope (top 34)) (He.ga K "_law_is_cell") cdv A outer s H E) rfl
  exact (ss_cons (ss_if (ew_or (et_not (et_val (ef_bi call_isi c_isi T.b_isinstance (ec_cons ((ef_var 1)).b (ec_cons ((ef_bty T.b_tuple)).b ec_nil))))) (ew_or (et_cmp (op_neA hr.units) o_ne ((ef_bi call_lenX c_lenX T.b_len (ec_cons ((ef_var 1)).b ec_nil))).b (ef_int).b rfl) (ew_or1 (et_not (et_val (ef_bi (cr_all rfl) c_all T.b_all (ec_cons ((en_lc rfl S__law_is_cell.nd (ei_any (ef_var 1)) (blkOk_by (own := [("one", 2)]) (by kernel_rfl)) (tg_name 2) (fun _ _ _ _ _ => (pg_name (i := 2) S__law_is_cell.nd rfl (by first | exact Or.inl rfl | exact Or.inr rfl))) (fun _ _ _ _ _ => ets_nil) (fun _ _ _ _ _ => (ef_and (ef_bi call_isi c_isi T.b_isinstance (ec_cons ((ef_var 2)).b (ec_cons ((ef_bty T.b_int)).b ec_nil))) (ef_one (ef_not (ef_bi call_isi c_isi T.b_isinstance (ec_cons ((ef_var 2)).b (ec_cons ((ef_bty T.b_bool)).b ec_nil))))))))).b ec_nil))))))).t (ss_one (ss_ret ef_bl)) ss_nil)
    (ss_one (ss_ret (ef_cmp (op_inX (un65 hr)) o_inX ((ef_var 1)).b ((ef_var 0)).b rfl))))
theorem S__law_told : FnScope ["rows", "cells", "left", "known", "turn", "fresh", "pair", "sign", "there", "bumps", "cell"] ["rows", "cells"] (defScope (top 35)) := ⟨rfl, rfl, rfl, by decide +kernel, rfl, by decide +kernel, by decide +kernel⟩
theorem ok__law_told (T : Facts w K mg) : FnP P w K mg base 4 (He.ga K "_law_told") ["rows", "cells"] (spF K F__law_told) := by
  obtain ⟨⟨fd__law_behind, G__law_behind, b__law_behind, _⟩, kp__law_behind⟩ := ok__law_behind T (P := P) (base := base)
  obtain ⟨⟨fd__law_pairs, G__law_pairs, b__law_pairs, _⟩, kp__law_pairs⟩ := ok__law_pairs T (P := P) (base := base)
  obtain ⟨⟨fd__law_step, G__law_step, b__law_step, _⟩, kp__law_step⟩ := ok__law_step T (P := P) (base := base)
  refine T.d__law_told.f S__law_told fun cdv A outer s H E hr => ?_
  have tk := L2.takes_of (X := cxOf (L2.CX P w) P w K mg base ["rows", "cells", "left", "known", "turn", "fresh", "pair", "sign", "there", "bumps", "cell"] "_law_told" (defScope (top 35)) (He.ga K "_law_told") cdv A outer s H E) rfl rfl rfl rfl
  have hx := fun σ => L2.passAt tk σ
  have own := L2.passes_of (X := cxOf (L2.CX P w) P w K mg base ["rows", "cells", "left", "known", "turn", "fresh", "pair", "sign", "there", "bumps", "cell"] "_law_told" (defScope (top 35)) (He.ga K "_law_told") cdv A outer s H E) rfl
  exact (ss_cons (ss_parFN 2 3 (ef_call G__law_pairs (hr.mono (by decide : 1 ≤ 3)) T.g__law_pairs kp__law_pairs b__law_pairs hx (ea_cons (ef_var 1) ea_nil)) en_dnew rfl S__law_told.nd)
    (ss_cons (ss_for (vs := [4]) own rfl (ei_range1 T.b_range (ea_cons (ef_op op_addA o_add ((ef_bi call_lenX c_lenX T.b_len (ec_cons ((ef_var 2)).b ec_nil))).b (ef_int).b) ea_nil)) (pg_name (i := 4) S__law_told.nd rfl (by first | exact Or.inl rfl | exact Or.inr rfl)) (tg_name 4)
    (ss_cons (ss_setO 5 en_dnew S__law_told.nd)
    (ss_cons (ss_for (vs := [6]) own rfl (ei_any (ef_var 2)) (pg_name (i := 6) S__law_told.nd rfl (by first | exact Or.inl rfl | exact Or.inr rfl)) (tg_name 6)
    (ss_one (ss_for (vs := [7]) own rfl (ei_any ef_str) (pg_name (i := 7) S__law_told.nd rfl (by first | exact Or.inl rfl | exact Or.inr rfl)) (tg_name 7)
    (ss_cons (ss_set 8 (ef_call G__law_behind (hr.mono (by decide : 3 ≤ 3)) T.g__law_behind kp__law_behind b__law_behind hx (ea_cons (ef_var 0) (ea_cons (ef_var 6) (ea_cons (ef_var 7) ea_nil)))) S__law_told.nd)
    (ss_cons (ss_setLc 9 rfl S__law_told.nd rfl (sw_true rfl rfl rfl (by decide +kernel)) (ei_any (ef_var 6)) (blkOk_by (own := [("cell", 10)]) (by kernel_rfl)) (tg_name 10) (fun _ _ _ _ _ => (pg_name (i := 10) S__law_told.nd rfl (by first | exact Or.inl rfl | exact Or.inr rfl))) (fun _ _ _ _ _ => ets_nil) (fun _ _ _ _ _ => (ef_cmp (op_eqA hr.units) o_eq ((ef_call G__law_step (hr.mono (by decide : 2 ≤ 3)) T.g__law_step kp__law_step b__law_step passB (ea_cons (ef_var 0) (ea_cons (ef_var 10) (ea_cons (ef_var 7) ea_nil))))).b ((ef_var 10)).b rfl)))
    (ss_one (ss_if (ew_or (et_cmp (op_neA hr.units) o_ne ((ef_ix (ix_any (un65 hr)) o_ixX ((ef_var 9)).b (ef_int).b)).b ((ef_ix (ix_any (un65 hr)) o_ixX ((ef_var 9)).b (ef_int).b)).b rfl) (ew_or1 (et_cmp (op_inX (un65 hr)) o_inX ((ef_var 8)).b (eb_var 3) rfl))).t (ss_one (ss_put 5 (un65 hr) (ef_var 6) (ef_var 7))) ss_nil)))))))
    (ss_cons (ss_if (et_cmp (op_eqA hr.units) o_eq ((ef_bi call_lenX c_lenX T.b_len (ec_cons (eb_var 5) ec_nil))).b (ef_int).b rfl) (ss_one (ss_frz 3 (ss_ret (ef_var 3)))) ss_nil)
    (ss_cons (ss_setLc 2 rfl S__law_told.nd rfl (sw_true rfl rfl rfl (by decide +kernel)) (ei_any (ef_var 2)) (blkOk_by (own := [("pair", 6)]) (by kernel_rfl)) (tg_name 6) (fun _ _ _ _ _ => (pg_name (i := 6) S__law_told.nd rfl (by first | exact Or.inl rfl | exact Or.inr rfl))) (fun _ _ _ _ _ => (ets_one (et_cmp (op_notInX (un65 hr)) o_notInX ((ef_var 6)).b (eb_var 5) rfl))) (fun _ _ _ _ _ => (ef_var 6)))
    (ss_one (ss_frz 5 (ss_for (vs := [6]) own rfl (ei_dct (ef_var 5)) (pg_name (i := 6) S__law_told.nd rfl (by first | exact Or.inl rfl | exact Or.inr rfl)) (tg_name 6)
    (ss_one (ss_put 3 (un65 hr) (ef_var 6) (ef_ix (ix_any (un65 hr)) o_ixX (eb_var 5) ((ef_var 6)).b)))))))))))
    (ss_one (ss_frz 3 (ss_ret (ef_var 3))))))
theorem S__law_alike : FnScope ["known", "one", "other"] ["known", "one", "other"] (defScope (top 36)) := ⟨rfl, rfl, rfl, by decide +kernel, rfl, by decide +kernel, by decide +kernel⟩
theorem ok__law_alike (T : Facts w K mg) : FnP P w K mg base 1 (He.ga K "_law_alike") ["known", "one", "other"] (spF K F__law_alike) := by
  refine T.d__law_alike.f S__law_alike fun cdv A outer s H E hr => ?_
  have tk := L2.takes_of (X := cxOf (L2.CX P w) P w K mg base ["known", "one", "other"] "_law_alike" (defScope (top 36)) (He.ga K "_law_alike") cdv A outer s H E) rfl rfl rfl rfl
  have hx := fun σ => L2.passAt tk σ
  have own := L2.passes_of (X := cxOf (L2.CX P w) P w K mg base ["known", "one", "other"] "_law_alike" (defScope (top 36)) (He.ga K "_law_alike") cdv A outer s H E) rfl
  exact (ss_one (ss_ret (ef_or (ef_cmp (op_eqA hr.units) o_eq ((ef_var 1)).b ((ef_var 2)).b rfl) (ef_one (ef_cmp (op_notInX (un65 hr)) o_notInX ((ef_tup (ea_cons (ef_bi (call_minX rfl (un65 hr)) c_minX T.b_min (ec_cons ((ef_var 1)).b (ec_cons ((ef_var 2)).b ec_nil))) (ea_cons (ef_bi (call_maxX rfl (un65 hr)) c_maxX T.b_max (ec_cons ((ef_var 1)).b (ec_cons ((ef_var 2)).b ec_nil))) ea_nil)))).b ((ef_var 0)).b rfl)))))
theorem S__law_due : FnScope ["rows", "cells", "value", "known", "pair", "sign", "there", "bumps", "one", "k", "cell"] ["rows", "cells", "value"] (defScope (top 37)) := ⟨rfl, rfl, rfl, by decide +kernel, rfl, by decide +kernel, by decide +kernel⟩
theorem ok__law_due (T : Facts w K mg) : FnP P w K mg base 4 (He.ga K "_law_due") ["rows", "cells", "value"] (spF K F__law_due) := by
  obtain ⟨⟨fd__law_behind, G__law_behind, b__law_behind, _⟩, kp__law_behind⟩ := ok__law_behind T (P := P) (base := base)
  obtain ⟨⟨fd__law_is_cell, G__law_is_cell, b__law_is_cell, _⟩, kp__law_is_cell⟩ := ok__law_is_cell T (P := P) (base := base)
  obtain ⟨⟨fd__law_step, G__law_step, b__law_step, _⟩, kp__law_step⟩ := ok__law_step T (P := P) (base := base)
  refine T.d__law_due.f S__law_due fun cdv A outer s H E hr => ?_
  have tk := L2.takes_of (X := cxOf (L2.CX P w) P w K mg base ["rows", "cells", "value", "known", "pair", "sign", "there", "bumps", "one", "k", "cell"] "_law_due" (defScope (top 37)) (He.ga K "_law_due") cdv A outer s H E) rfl rfl rfl rfl
  have hx := fun σ => L2.passAt tk σ
  have own := L2.passes_of (X := cxOf (L2.CX P w) P w K mg base ["rows", "cells", "value", "known", "pair", "sign", "there", "bumps", "one", "k", "cell"] "_law_due" (defScope (top 37)) (He.ga K "_law_due") cdv A outer s H E) rfl
  exact (ss_cons (ss_if (ew_or (et_not (et_val (ef_bi call_isi c_isi T.b_isinstance (ec_cons ((ef_var 2)).b (ec_cons ((ef_bty T.b_tuple)).b ec_nil))))) (ew_or1 (et_not (et_val (ef_bi (cr_all rfl) c_all T.b_all (ec_cons ((en_lc rfl S__law_due.nd (ei_any (ef_var 2)) (blkOk_by (own := [("one", 8)]) (by kernel_rfl)) (tg_name 8) (fun _ _ _ _ _ => (pg_name (i := 8) S__law_due.nd rfl (by first | exact Or.inl rfl | exact Or.inr rfl))) (fun _ _ _ _ _ => ets_nil) (fun _ _ _ _ _ => (ef_and (ef_bi call_isi c_isi T.b_isinstance (ec_cons ((ef_var 8)).b (ec_cons ((ef_bty T.b_tuple)).b ec_nil))) (ef_one (ef_cmp (op_eqA hr.units) o_eq ((ef_bi call_lenX c_lenX T.b_len (ec_cons ((ef_var 8)).b ec_nil))).b (ef_int).b rfl)))))).b ec_nil)))))).t (ss_one (ss_ret (ef_tup (ea_cons ef_str ea_nil)))) ss_nil)
    (ss_cons (ss_if (et_not (et_val (ef_bi (cr_all rfl) c_all T.b_all (ec_cons ((en_lc rfl S__law_due.nd (ei_any (ef_var 2)) (blkOk_by (own := [("one", 8)]) (by kernel_rfl)) (tg_name 8) (fun _ _ _ _ _ => (pg_name (i := 8) S__law_due.nd rfl (by first | exact Or.inl rfl | exact Or.inr rfl))) (fun _ _ _ _ _ => ets_nil) (fun _ _ _ _ _ => (ef_and (ef_call G__law_is_cell (hr.mono (by decide : 1 ≤ 3)) T.g__law_is_cell kp__law_is_cell b__law_is_cell passB (ea_cons (ef_var 1) (ea_cons (ef_ix (ix_any (un65 hr)) o_ixX ((ef_var 8)).b (ef_int).b) ea_nil))) (ef_and (ef_call G__law_is_cell (hr.mono (by decide : 1 ≤ 3)) T.g__law_is_cell kp__law_is_cell b__law_is_cell passB (ea_cons (ef_var 1) (ea_cons (ef_ix (ix_any (un65 hr)) o_ixX ((ef_var 8)).b (ef_int).b) ea_nil))) (ef_one (ef_cmp (op_ltX (un65 hr)) o_ltX ((ef_ix (ix_any (un65 hr)) o_ixX ((ef_var 8)).b (ef_int).b)).b ((ef_ix (ix_any (un65 hr)) o_ixX ((ef_var 8)).b (ef_int).b)).b rfl))))))).b ec_nil)))) (ss_one (ss_ret (ef_tup (ea_cons ef_str ea_nil)))) ss_nil)
    (ss_cons (ss_if (et_val (ef_bi (cr_any rfl) c_any T.b_any (ec_cons ((en_lc rfl S__law_due.nd (ei_range1 T.b_range (ea_cons (ef_op op_sub o_sub ((ef_bi call_lenX c_lenX T.b_len (ec_cons ((ef_var 2)).b ec_nil))).b (ef_int).b) ea_nil)) (blkOk_by (own := [("k", 9)]) (by kernel_rfl)) (tg_name 9) (fun _ _ _ _ _ => (pg_name (i := 9) S__law_due.nd rfl (by first | exact Or.inl rfl | exact Or.inr rfl))) (fun _ _ _ _ _ => ets_nil) (fun _ _ _ _ _ => (ef_cmp (op_geX (un65 hr)) o_geX ((ef_ix (ix_any (un65 hr)) o_ixX ((ef_var 2)).b ((ef_var 9)).b)).b ((ef_ix (ix_any (un65 hr)) o_ixX ((ef_var 2)).b ((ef_op op_addA o_add ((ef_var 9)).b (ef_int).b)).b)).b rfl)))).b ec_nil))) (ss_one (ss_ret (ef_tup (ea_cons ef_str ea_nil)))) ss_nil)
    (ss_cons (ss_setO 3 en_dnew S__law_due.nd)
    (ss_cons (ss_for (vs := [4]) own rfl (ei_any (ef_var 2)) (pg_name (i := 4) S__law_due.nd rfl (by first | exact Or.inl rfl | exact Or.inr rfl)) (tg_name 4)
    (ss_one (ss_put 3 (un65 hr) (ef_var 4) ef_bl)))
    (ss_cons (ss_for (vs := [4]) own rfl (ei_any (ef_var 2)) (pg_name (i := 4) S__law_due.nd rfl (by first | exact Or.inl rfl | exact Or.inr rfl)) (tg_name 4)
    (ss_one (ss_for (vs := [5]) own rfl (ei_any ef_str) (pg_name (i := 5) S__law_due.nd rfl (by first | exact Or.inl rfl | exact Or.inr rfl)) (tg_name 5)
    (ss_cons (ss_set 6 (ef_call G__law_behind (hr.mono (by decide : 3 ≤ 3)) T.g__law_behind kp__law_behind b__law_behind hx (ea_cons (ef_var 0) (ea_cons (ef_var 4) (ea_cons (ef_var 5) ea_nil)))) S__law_due.nd)
    (ss_cons (ss_setLc 7 rfl S__law_due.nd rfl (sw_true rfl rfl rfl (by decide +kernel)) (ei_any (ef_var 4)) (blkOk_by (own := [("cell", 10)]) (by kernel_rfl)) (tg_name 10) (fun _ _ _ _ _ => (pg_name (i := 10) S__law_due.nd rfl (by first | exact Or.inl rfl | exact Or.inr rfl))) (fun _ _ _ _ _ => ets_nil) (fun _ _ _ _ _ => (ef_cmp (op_eqA hr.units) o_eq ((ef_call G__law_step (hr.mono (by decide : 2 ≤ 3)) T.g__law_step kp__law_step b__law_step passB (ea_cons (ef_var 0) (ea_cons (ef_var 10) (ea_cons (ef_var 5) ea_nil))))).b ((ef_var 10)).b rfl)))
    (ss_one (ss_if (ew_or (et_cmp (op_neA hr.units) o_ne ((ef_ix (ix_any (un65 hr)) o_ixX ((ef_var 7)).b (ef_int).b)).b ((ef_ix (ix_any (un65 hr)) o_ixX ((ef_var 7)).b (ef_int).b)).b rfl) (ew_or1 (ew_and (et_cmp (op_neA hr.units) o_ne ((ef_ix (ix_any (un65 hr)) o_ixX ((ef_var 6)).b (ef_int).b)).b ((ef_ix (ix_any (un65 hr)) o_ixX ((ef_var 6)).b (ef_int).b)).b rfl) (ew_and1 (et_cmp (op_notInX (un65 hr)) o_notInX ((ef_var 6)).b (eb_var 3) rfl))).t)).t (ss_one (ss_ret (ef_tup (ea_cons ef_str (ea_cons (ef_ix (ix_any (un65 hr)) o_ixX ((ef_var 4)).b (ef_int).b) (ea_cons (ef_ix (ix_any (un65 hr)) o_ixX ((ef_var 4)).b (ef_int).b) (ea_cons (ef_var 5) ea_nil))))))) ss_nil)))))))
    (ss_one (ss_ret ef_non))))))))
theorem S__law_bent : FnScope ["draws", "cells", "value", "one", "other", "pair", "found", "at", "wrong"] ["draws", "cells", "value"] (defScope (top 38)) := ⟨rfl, rfl, rfl, by decide +kernel, rfl, by decide +kernel, by decide +kernel⟩
theorem ok__law_bent (T : Facts w K mg) : FnP P w K mg base 2 (He.ga K "_law_bent") ["draws", "cells", "value"] (spF K F__law_bent) := by
  obtain ⟨⟨fd__law_pairs, G__law_pairs, b__law_pairs, _⟩, kp__law_pairs⟩ := ok__law_pairs T (P := P) (base := base)
  refine T.d__law_bent.f S__law_bent fun cdv A outer s H E hr => ?_
  have tk := L2.takes_of (X := cxOf (L2.CX P w) P w K mg base ["draws", "cells", "value", "one", "other", "pair", "found", "at", "wrong"] "_law_bent" (defScope (top 38)) (He.ga K "_law_bent") cdv A outer s H E) rfl rfl rfl rfl
  have hx := fun σ => L2.passAt tk σ
  have own := L2.passes_of (X := cxOf (L2.CX P w) P w K mg base ["draws", "cells", "value", "one", "other", "pair", "found", "at", "wrong"] "_law_bent" (defScope (top 38)) (He.ga K "_law_bent") cdv A outer s H E) rfl
  exact (ss_cons (ss_par 3 4 (ef_ix (ix_any (un65 hr)) o_ixX ((ef_var 1)).b ((ef_op op_mod o_mod ((ef_bt call_int1 c_int T.b_int (ec_cons ((ef_ix (ix_any (un65 hr)) o_ixX ((ef_var 0)).b (ef_int).b)).b ec_nil))).b ((ef_bi call_lenX c_lenX T.b_len (ec_cons ((ef_var 1)).b ec_nil))).b)).b) (ef_ix (ix_any (un65 hr)) o_ixX ((ef_var 1)).b ((ef_op op_mod o_mod ((ef_bt call_int1 c_int T.b_int (ec_cons ((ef_ix (ix_any (un65 hr)) o_ixX ((ef_var 0)).b (ef_int).b)).b ec_nil))).b ((ef_bi call_lenX c_lenX T.b_len (ec_cons ((ef_var 1)).b ec_nil))).b)).b) rfl S__law_bent.nd)
    (ss_cons (ss_set 5 (ef_tup (ea_cons (ef_bi (call_minX rfl (un65 hr)) c_minX T.b_min (ec_cons ((ef_var 3)).b (ec_cons ((ef_var 4)).b ec_nil))) (ea_cons (ef_bi (call_maxX rfl (un65 hr)) c_maxX T.b_max (ec_cons ((ef_var 3)).b (ec_cons ((ef_var 4)).b ec_nil))) ea_nil))) S__law_bent.nd)
    (ss_cons (ss_set 6 ((en_lst (ea_cons (ef_var 2) (ea_cons ((en_bt call_list_of c_list T.b_list (ec_cons ((ef_var 2)).b ec_nil))).fz (ea_cons ef_non (ea_cons ef_int (ea_cons (ef_tup ea_nil) (ea_cons (ef_sl sl_any s_any ((ef_var 2)).b (eo_some ef_int) eo_none) (ea_cons (ef_sl sl_any s_any ((ef_var 2)).b eo_none (eo_some (ef_neg (ef_int).b))) (ea_cons (ef_revT ((ef_var 2)).b) (ea_cons (ef_op op_addA o_add ((ef_var 2)).b ((ef_sl sl_any s_any ((ef_var 2)).b (eo_some (ef_neg (ef_int).b)) eo_none)).b) (ea_cons (ef_tup (ea_cons (ef_var 5) ea_nil)) (ea_cons (ef_bt call_tuple_of c_tuple T.b_tuple (ec_cons ((ef_call G__law_pairs (hr.mono (by decide : 1 ≤ 1)) T.g__law_pairs kp__law_pairs b__law_pairs hx (ea_cons (ef_var 1) ea_nil))).b ec_nil)) (ea_cons (ef_op op_addA o_add ((ef_var 2)).b ((ef_tup (ea_cons (ef_tup (ea_cons (ef_var 3) (ea_cons (ef_var 3) ea_nil))) ea_nil))).b) (ea_cons (ef_op op_addA o_add ((ef_var 2)).b ((ef_tup (ea_cons (ef_tup (ea_cons (ef_ix (ix_any (un65 hr)) o_ixX ((ef_var 5)).b (ef_int).b) (ea_cons (ef_ix (ix_any (un65 hr)) o_ixX ((ef_var 5)).b (ef_int).b) ea_nil))) ea_nil))).b) ea_nil))))))))))))))).fz S__law_bent.nd)
    (ss_cons (ss_set 6 (ef_op op_addA o_add ((ef_op op_addA o_add ((ef_var 6)).b ((en_lst (ea_cons (ef_bt call_tuple_of c_tuple T.b_tuple (ec_cons ((en_ssetN rfl (un65 hr) T.b_sorted T.b_set ((ef_op op_addA o_add ((ef_var 2)).b ((ef_tup (ea_cons (ef_var 5) ea_nil))).b)).b)).b ec_nil)) ea_nil))).b)).b ((en_lc rfl S__law_bent.nd (ei_any ((en_lst (ea_cons ef_non (ea_cons (ef_tup (ea_cons (ef_var 3) ea_nil)) (ea_cons ((en_lst (ea_cons (ef_var 3) (ea_cons (ef_var 4) ea_nil)))).fz (ea_cons (ef_tup (ea_cons (ef_var 3) (ea_cons (ef_tup (ea_cons ef_int (ea_cons ef_int ea_nil))) ea_nil))) (ea_cons (ef_tup (ea_cons ef_non (ea_cons (ef_var 4) ea_nil))) (ea_cons (ef_tup (ea_cons (ef_tup (ea_cons ef_int (ea_cons ef_bl ea_nil))) (ea_cons (ef_tup (ea_cons ef_int (ea_cons ef_int ea_nil))) ea_nil))) (ea_cons (ef_tup (ea_cons (ef_var 3) (ea_cons (ef_var 4) (ea_cons (ef_var 3) ea_nil)))) ea_nil))))))))).fz) (blkOk_by (own := [("wrong", 8)]) (by kernel_rfl)) (tg_name 8) (fun _ _ _ _ _ => (pg_name (i := 8) S__law_bent.nd rfl (by first | exact Or.inl rfl | exact Or.inr rfl))) (fun _ _ _ _ _ => ets_nil) (fun _ _ _ _ _ => (ef_op op_addA o_add ((ef_var 2)).b ((ef_tup (ea_cons (ef_var 8) ea_nil))).b)))).b) S__law_bent.nd)
    (ss_cons (ss_if (et_cmp (op_gtX (un65 hr)) o_gtX ((ef_bi call_lenX c_lenX T.b_len (ec_cons ((ef_var 2)).b ec_nil))).b (ef_int).b rfl) (ss_cons (ss_set 7 (ef_op op_mod o_mod ((ef_bt call_int1 c_int T.b_int (ec_cons ((ef_ix (ix_any (un65 hr)) o_ixX ((ef_var 0)).b (ef_int).b)).b ec_nil))).b ((ef_bi call_lenX c_lenX T.b_len (ec_cons ((ef_var 2)).b ec_nil))).b) S__law_bent.nd)
    (ss_one (ss_set 6 (ef_op op_addA o_add ((ef_var 6)).b ((en_lst (ea_cons (ef_op op_addA o_add ((ef_sl sl_any s_any ((ef_var 2)).b eo_none (eo_some (ef_var 7)))).b ((ef_sl sl_any s_any ((ef_var 2)).b (eo_some (ef_op op_addA o_add ((ef_var 7)).b (ef_int).b)) eo_none)).b) (ea_cons (ef_op op_addA o_add ((ef_op op_addA o_add ((ef_sl sl_any s_any ((ef_var 2)).b eo_none (eo_some (ef_var 7)))).b ((ef_tup (ea_cons (ef_var 5) ea_nil))).b)).b ((ef_sl sl_any s_any ((ef_var 2)).b (eo_some (ef_op op_addA o_add ((ef_var 7)).b (ef_int).b)) eo_none)).b) ea_nil)))).b) S__law_bent.nd))) ss_nil)
    (ss_one (ss_ret (ef_var 6))))))))
theorem S_law : FnScope ["script", "draws", "turn", "rows", "maze", "cells", "known", "alike", "value", "due", "k", "one", "other", "word", "pair", "n"] ["script"] (defScope (top 39)) := ⟨rfl, rfl, rfl, by decide +kernel, rfl, by decide +kernel, by decide +kernel⟩
theorem ok_law (T : Facts w K mg) : FnP P w K mg base 7 (He.ga K "law") ["script"] (spF K F_law) := by
  obtain ⟨⟨fd_Maze, G_Maze, b_Maze, _⟩, kp_Maze⟩ := ok_Maze T (P := P) (base := base)
  obtain ⟨⟨fd__law_bent, G__law_bent, b__law_bent, _⟩, kp__law_bent⟩ := ok__law_bent T (P := P) (base := base)
  obtain ⟨⟨fd__law_cells, G__law_cells, b__law_cells, _⟩, kp__law_cells⟩ := ok__law_cells T (P := P) (base := base)
  obtain ⟨⟨fd__law_draws, G__law_draws, b__law_draws, _⟩, kp__law_draws⟩ := ok__law_draws T (P := P) (base := base)
  obtain ⟨⟨fd__law_due, G__law_due, b__law_due, _⟩, kp__law_due⟩ := ok__law_due T (P := P) (base := base)
  obtain ⟨⟨fd__law_pairs, G__law_pairs, b__law_pairs, _⟩, kp__law_pairs⟩ := ok__law_pairs T (P := P) (base := base)
  obtain ⟨⟨fd__law_rows, G__law_rows, b__law_rows, _⟩, kp__law_rows⟩ := ok__law_rows T (P := P) (base := base)
  obtain ⟨⟨fd__law_told, G__law_told, b__law_told, _⟩, kp__law_told⟩ := ok__law_told T (P := P) (base := base)
  obtain ⟨⟨fd_alike_fault, G_alike_fault, b_alike_fault, _⟩, kp_alike_fault⟩ := ok_alike_fault T (P := P) (base := base)
  obtain ⟨⟨fd_report, G_report, b_report, _⟩, kp_report⟩ := ok_report T (P := P) (base := base)
  refine T.d_law.f S_law fun cdv A outer s H E hr => ?_
  have tk := L2.takes_of (X := cxOf (L2.CX P w) P w K mg base ["script", "draws", "turn", "rows", "maze", "cells", "known", "alike", "value", "due", "k", "one", "other", "word", "pair", "n"] "law" (defScope (top 39)) (He.ga K "law") cdv A outer s H E) rfl rfl rfl rfl
  have hx := fun σ => L2.passAt tk σ
  have own := L2.passes_of (X := cxOf (L2.CX P w) P w K mg base ["script", "draws", "turn", "rows", "maze", "cells", "known", "alike", "value", "due", "k", "one", "other", "word", "pair", "n"] "law" (defScope (top 39)) (He.ga K "law") cdv A outer s H E) rfl
  exact (ss_cons (ss_set 1 (ef_call G__law_draws (hr.mono (by decide : 1 ≤ 6)) T.g__law_draws kp__law_draws b__law_draws hx (ea_cons (ef_var 0) (ea_cons ef_int ea_nil))) S_law.nd)
    (ss_cons (ss_for (vs := [2]) own rfl (ei_range1 T.b_range (ea_cons ef_int ea_nil)) (pg_name (i := 2) S_law.nd rfl (by first | exact Or.inl rfl | exact Or.inr rfl)) (tg_name 2)
    (ss_cons (ss_set 3 (ef_call G__law_rows (hr.mono (by decide : 1 ≤ 6)) T.g__law_rows kp__law_rows b__law_rows hx (ea_cons (ef_sl sl_any s_any ((ef_var 1)).b (eo_some (ef_op op_addA o_add (ef_int).b ((ef_op op_mulY o_mulY (ef_int).b ((ef_var 2)).b)).b)) (eo_some (ef_op op_addA o_add (ef_int).b ((ef_op op_mulY o_mulY (ef_int).b ((ef_var 2)).b)).b))) (ea_cons (ef_op op_addA o_add (ef_int).b ((ef_op op_mod o_mod ((ef_bt call_int1 c_int T.b_int (ec_cons ((ef_ix (ix_any (un65 hr)) o_ixX ((ef_var 1)).b ((ef_var 2)).b)).b ec_nil))).b (ef_int).b)).b) (ea_cons (ef_op op_addA o_add (ef_int).b ((ef_op op_mod o_mod ((ef_op op_fdiv o_div ((ef_bt call_int1 c_int T.b_int (ec_cons ((ef_ix (ix_any (un65 hr)) o_ixX ((ef_var 1)).b ((ef_var 2)).b)).b ec_nil))).b (ef_int).b)).b (ef_int).b)).b) ea_nil)))) S_law.nd)
    (ss_cons (ss_if (et_cmp (op_eqA hr.units) o_eq ((ef_op op_mod o_mod ((ef_bt call_int1 c_int T.b_int (ec_cons ((ef_ix (ix_any (un65 hr)) o_ixX ((ef_var 1)).b ((ef_op op_addA o_add (ef_int).b ((ef_var 2)).b)).b)).b ec_nil))).b (ef_int).b)).b (ef_int).b rfl) (ss_one (ss_set 3 (ef_op op_addA o_add ((ef_op op_addA o_add ((ef_var 3)).b ((ef_tup (ea_cons (ef_op op_mulY o_mulY (ef_str).b ((ef_bi call_lenX c_lenX T.b_len (ec_cons ((ef_ix (ix_any (un65 hr)) o_ixX ((ef_var 3)).b (ef_int).b)).b ec_nil))).b) ea_nil))).b)).b ((ef_var 3)).b) S_law.nd)) ss_nil)
    (ss_cons (ss_par 4 5 (ef_makeE T.mk_Maze G_Maze hF_Maze hE_Maze (hr.mono (by decide : 2 ≤ 6)) T.g_Maze b_Maze hx (ea_cons (ef_var 3) ea_nil)) (ef_call G__law_cells (hr.mono (by decide : 1 ≤ 6)) T.g__law_cells kp__law_cells b__law_cells hx (ea_cons (ef_var 3) ea_nil)) rfl S_law.nd)
    (ss_cons (ss_set 6 (ef_call G__law_told (hr.mono (by decide : 4 ≤ 6)) T.g__law_told kp__law_told b__law_told hx (ea_cons (ef_var 3) (ea_cons (ef_var 5) ea_nil))) S_law.nd)
    (ss_cons (ss_set 7 (ef_bt call_tuple_of c_tuple T.b_tuple (ec_cons ((en_lc rfl S_law.nd (ei_any (ef_call G__law_pairs (hr.mono (by decide : 1 ≤ 6)) T.g__law_pairs kp__law_pairs b__law_pairs hx (ea_cons (ef_var 5) ea_nil))) (blkOk_by (own := [("pair", 14)]) (by kernel_rfl)) (tg_name 14) (fun _ _ _ _ _ => (pg_name (i := 14) S_law.nd rfl (by first | exact Or.inl rfl | exact Or.inr rfl))) (fun _ _ _ _ _ => (ets_one (et_cmp (op_notInX (un65 hr)) o_notInX ((ef_var 14)).b ((ef_var 6)).b rfl))) (fun _ _ _ _ _ => (ef_var 14)))).b ec_nil)) S_law.nd)
    (ss_cons (ss_for (vs := [8]) own rfl (ei_any (ef_call G__law_bent (hr.mono (by decide : 2 ≤ 6)) T.g__law_bent kp__law_bent b__law_bent hx (ea_cons (ef_sl sl_any s_any ((ef_var 1)).b (eo_some (ef_op op_addA o_add (ef_int).b ((ef_op op_mulY o_mulY (ef_int).b ((ef_var 2)).b)).b)) eo_none) (ea_cons (ef_var 5) (ea_cons (ef_var 7) ea_nil))))) (pg_name (i := 8) S_law.nd rfl (by first | exact Or.inl rfl | exact Or.inr rfl)) (tg_name 8)
    (ss_cons (ss_set 9 (ef_call G__law_due (hr.mono (by decide : 4 ≤ 6)) T.g__law_due kp__law_due b__law_due hx (ea_cons (ef_var 3) (ea_cons (ef_var 5) (ea_cons (ef_var 8) ea_nil)))) S_law.nd)
    (ss_one (ss_if (ew_or (et_cmp (op_neA hr.units) o_ne ((ef_call G_alike_fault (hr.mono (by decide : 5 ≤ 6)) T.g_alike_fault kp_alike_fault b_alike_fault hx (ea_cons (ef_var 4) (ea_cons (ef_var 8) ea_nil)))).b ((ef_var 9)).b rfl) (ew_or1 (ew_and (et_cmp op_isX o_isX ((ef_var 9)).b (ef_non).b rfl) (ew_and1 (et_val (ef_bi (cr_any rfl) c_any T.b_any (ec_cons ((en_lc rfl S_law.nd (ei_any (ef_var 8)) (blkOk_by (own := [("pair", 14)]) (by kernel_rfl)) (tg_name 14) (fun _ _ _ _ _ => (pg_name (i := 14) S_law.nd rfl (by first | exact Or.inl rfl | exact Or.inr rfl))) (fun _ _ _ _ _ => ets_nil) (fun _ _ _ _ _ => (ef_cmp (op_inX (un65 hr)) o_inX ((ef_var 14)).b ((ef_var 6)).b rfl)))).b ec_nil))))).t)).t (ss_one (ss_ret ef_bl)) ss_nil))))
    (ss_one (ss_for (vs := [10]) own rfl (ei_range1 T.b_range (ea_cons (ef_bi (call_minX rfl (un65 hr)) c_minX T.b_min (ec_cons (ef_int).b (ec_cons ((ef_bi call_lenX c_lenX T.b_len (ec_cons ((ef_var 7)).b ec_nil))).b ec_nil))) ea_nil)) (pg_name (i := 10) S_law.nd rfl (by first | exact Or.inl rfl | exact Or.inr rfl)) (tg_name 10)
    (ss_cons (ss_asg (vs := [11, 12]) (ef_ix (ix_any (un65 hr)) o_ixX ((ef_var 7)).b ((ef_op op_mod o_mod ((ef_bt call_int1 c_int T.b_int (ec_cons ((ef_ix (ix_any (un65 hr)) o_ixX ((ef_var 1)).b ((ef_op op_addA o_add (ef_int).b ((ef_var 10)).b)).b)).b ec_nil))).b ((ef_bi call_lenX c_lenX T.b_len (ec_cons ((ef_var 7)).b ec_nil))).b)).b) (pg_tup rfl (pgs_cons (pg_name (i := 11) S_law.nd rfl (by first | exact Or.inl rfl | exact Or.inr rfl)) (pgs_cons (pg_name (i := 12) S_law.nd rfl (by first | exact Or.inl rfl | exact Or.inr rfl)) pgs_nil))) (tg_tup (tgs_cons (tg_name 11) (tgs_cons (tg_name 12) tgs_nil))))
    (ss_cons (ss_set 13 (ef_m1 PySem.F.slot_str_join PySem.F.type_str_join mt_join m_join (ef_str).b ((en_lc rfl S_law.nd (ei_range1 T.b_range (ea_cons ef_int ea_nil)) (blkOk_by (own := [("n", 15)]) (by kernel_rfl)) (tg_name 15) (fun _ _ _ _ _ => (pg_name (i := 15) S_law.nd rfl (by first | exact Or.inl rfl | exact Or.inr rfl))) (fun _ _ _ _ _ => ets_nil) (fun _ _ _ _ _ => (ef_ix (ix_any (un65 hr)) o_ixX (ef_str).b ((ef_op op_mod o_mod ((ef_op op_fdiv o_div ((ef_bt call_int1 c_int T.b_int (ec_cons ((ef_ix (ix_any (un65 hr)) o_ixX ((ef_var 1)).b ((ef_op op_addA o_add (ef_int).b ((ef_var 10)).b)).b)).b ec_nil))).b ((ef_op op_addA o_add ((ef_var 15)).b (ef_int).b)).b)).b (ef_int).b)).b)))).b) S_law.nd)
    (ss_one (ss_if (et_cmp (op_neA hr.units) o_ne ((ef_call G_report (hr.mono (by decide : 6 ≤ 6)) T.g_report kp_report b_report hx (ea_cons (ef_var 4) (ea_cons (ef_var 11) (ea_cons (ef_var 13) ea_nil))))).b ((ef_call G_report (hr.mono (by decide : 6 ≤ 6)) T.g_report kp_report b_report hx (ea_cons (ef_var 4) (ea_cons (ef_var 12) (ea_cons (ef_var 13) ea_nil))))).b rfl) (ss_one (ss_ret ef_bl)) ss_nil)))))))))))))
    (ss_one (ss_ret ef_bl))))
end
def faL : List He.Fa := [.cls "Maze", .noat "Maze" "height", .noat "Maze" "rows", .noat "Maze" "width", .free "abs", .free "all", .free "any", .free "bool", .free "int", .free "isinstance", .free "len", .free "list", .free "max", .free "min", .free "range", .free "set", .free "sorted", .free "str", .free "tuple", .glo "Maze", .glo "OTHERS", .glo "STEPS", .glo "_check", .glo "_law_alike", .glo "_law_behind", .glo "_law_bent", .glo "_law_cells", .glo "_law_draws", .glo "_law_due", .glo "_law_is_cell", .glo "_law_led", .glo "_law_near", .glo "_law_pairs", .glo "_law_rows", .glo "_law_step", .glo "_law_told", .glo "alike_fault", .glo "are_pairs", .glo "check_open", .glo "is_cell", .glo "is_open", .glo "is_whole", .glo "is_word", .glo "law", .glo "report", .glo "stepped", .glo "told", .int "MOST" 14, .mkr "Maze", .exc "BadCell", .glo "BadCell", .exc "BadMaze", .glo "BadMaze", .exc "BadWord", .glo "BadWord", .str "OPEN" ".", .str "SIGNS" "dlru"]
def fnL : List He.DefD := [⟨("Maze", some "__init__"), "__init__", "Maze.__init__", defArgs (inClass (top 10) 0), defBody (inClass (top 10) 0), defScope (inClass (top 10) 0), [], []⟩, ⟨("_check", none), "_check", "_check", defArgs (top 18), defBody (top 18), defScope (top 18), [], []⟩, ⟨("_law_alike", none), "_law_alike", "_law_alike", defArgs (top 36), defBody (top 36), defScope (top 36), [], []⟩, ⟨("_law_behind", none), "_law_behind", "_law_behind", defArgs (top 33), defBody (top 33), defScope (top 33), [], []⟩, ⟨("_law_bent", none), "_law_bent", "_law_bent", defArgs (top 38), defBody (top 38), defScope (top 38), [], []⟩, ⟨("_law_cells", none), "_law_cells", "_law_cells", defArgs (top 28), defBody (top 28), defScope (top 28), [], []⟩, ⟨("_law_draws", none), "_law_draws", "_law_draws", defArgs (top 26), defBody (top 26), defScope (top 26), [], []⟩, ⟨("_law_due", none), "_law_due", "_law_due", defArgs (top 37), defBody (top 37), defScope (top 37), [], []⟩, ⟨("_law_is_cell", none), "_law_is_cell", "_law_is_cell", defArgs (top 34), defBody (top 34), defScope (top 34), [], []⟩, ⟨("_law_led", none), "_law_led", "_law_led", defArgs (top 31), defBody (top 31), defScope (top 31), [], []⟩, ⟨("_law_near", none), "_law_near", "_law_near", defArgs (top 29), defBody (top 29), defScope (top 29), [], []⟩, ⟨("_law_pairs", none), "_law_pairs", "_law_pairs", defArgs (top 32), defBody (top 32), defScope (top 32), [], []⟩, ⟨("_law_rows", none), "_law_rows", "_law_rows", defArgs (top 27), defBody (top 27), defScope (top 27), [], []⟩, ⟨("_law_step", none), "_law_step", "_law_step", defArgs (top 30), defBody (top 30), defScope (top 30), [], []⟩, ⟨("_law_told", none), "_law_told", "_law_told", defArgs (top 35), defBody (top 35), defScope (top 35), [], []⟩, ⟨("alike_fault", none), "alike_fault", "alike_fault", defArgs (top 24), defBody (top 24), defScope (top 24), [], []⟩, ⟨("are_pairs", none), "are_pairs", "are_pairs", defArgs (top 22), defBody (top 22), defScope (top 22), [], []⟩, ⟨("check_open", none), "check_open", "check_open", defArgs (top 13), defBody (top 13), defScope (top 13), [], []⟩, ⟨("is_cell", none), "is_cell", "is_cell", defArgs (top 11), defBody (top 11), defScope (top 11), [], []⟩, ⟨("is_open", none), "is_open", "is_open", defArgs (top 12), defBody (top 12), defScope (top 12), [], []⟩, ⟨("is_whole", none), "is_whole", "is_whole", defArgs (top 9), defBody (top 9), defScope (top 9), [], []⟩, ⟨("is_word", none), "is_word", "is_word", defArgs (top 17), defBody (top 17), defScope (top 17), [], []⟩, ⟨("law", none), "law", "law", defArgs (top 39), defBody (top 39), defScope (top 39), [], []⟩, ⟨("report", none), "report", "report", defArgs (top 21), defBody (top 21), defScope (top 21), [], []⟩, ⟨("stepped", none), "stepped", "stepped", defArgs (top 19), defBody (top 19), defScope (top 19), [], []⟩, ⟨("told", none), "told", "told", defArgs (top 20), defBody (top 20), defScope (top 20), [], []⟩]
def tsL : List He.Tab := [(fun K => He.ga K "OTHERS", tb_OTHERS.map (·.1)), (fun K => He.ga K "STEPS", tb_STEPS.map (·.1))]
def exl (K : PySem.W.Frag) : List Bool := [tblB "OTHERS" tb_OTHERS K, tblB "STEPS" tb_STEPS K]
def exB (K : PySem.W.Frag) : Bool := (exl K).all id
theorem factsOf {w : World} {h : Heap} {K : PySem.W.Frag} {mg : Str → Option Value} (X : K.In h) (G : h.Ns mainGlobals mg) (c : He.SaysX faL fnL tsL [] exB w h K) : Facts w K mg where
  d_Maze := DefK.of (c.t.d.def_ 0 (d := ⟨("Maze", some "__init__"), "__init__", "Maze.__init__", defArgs (inClass (top 10) 0), defBody (inClass (top 10) 0), defScope (inClass (top 10) 0), [], []⟩) rfl) (fun _ _ _ _ _ _ us hl => match us, hl with | [_, _], _ => rfl)
  d__check := DefK.of (c.t.d.def_ 1 (d := ⟨("_check", none), "_check", "_check", defArgs (top 18), defBody (top 18), defScope (top 18), [], []⟩) rfl) (fun _ _ _ _ _ _ us hl => match us, hl with | [_, _, _], _ => rfl)
  d__law_alike := DefK.of (c.t.d.def_ 2 (d := ⟨("_law_alike", none), "_law_alike", "_law_alike", defArgs (top 36), defBody (top 36), defScope (top 36), [], []⟩) rfl) (fun _ _ _ _ _ _ us hl => match us, hl with | [_, _, _], _ => rfl)
  d__law_behind := DefK.of (c.t.d.def_ 3 (d := ⟨("_law_behind", none), "_law_behind", "_law_behind", defArgs (top 33), defBody (top 33), defScope (top 33), [], []⟩) rfl) (fun _ _ _ _ _ _ us hl => match us, hl with | [_, _, _], _ => rfl)
  d__law_bent := DefK.of (c.t.d.def_ 4 (d := ⟨("_law_bent", none), "_law_bent", "_law_bent", defArgs (top 38), defBody (top 38), defScope (top 38), [], []⟩) rfl) (fun _ _ _ _ _ _ us hl => match us, hl with | [_, _, _], _ => rfl)
  d__law_cells := DefK.of (c.t.d.def_ 5 (d := ⟨("_law_cells", none), "_law_cells", "_law_cells", defArgs (top 28), defBody (top 28), defScope (top 28), [], []⟩) rfl) (fun _ _ _ _ _ _ us hl => match us, hl with | [_], _ => rfl)
  d__law_draws := DefK.of (c.t.d.def_ 6 (d := ⟨("_law_draws", none), "_law_draws", "_law_draws", defArgs (top 26), defBody (top 26), defScope (top 26), [], []⟩) rfl) (fun _ _ _ _ _ _ us hl => match us, hl with | [_, _], _ => rfl)
  d__law_due := DefK.of (c.t.d.def_ 7 (d := ⟨("_law_due", none), "_law_due", "_law_due", defArgs (top 37), defBody (top 37), defScope (top 37), [], []⟩) rfl) (fun _ _ _ _ _ _ us hl => match us, hl with | [_, _, _], _ => rfl)
  d__law_is_cell := DefK.of (c.t.d.def_ 8 (d := ⟨("_law_is_cell", none), "_law_is_cell", "_law_is_cell", defArgs (top 34), defBody (top 34), defScope (top 34), [], []⟩) rfl) (fun _ _ _ _ _ _ us hl => match us, hl with | [_, _], _ => rfl)
  d__law_led := DefK.of (c.t.d.def_ 9 (d := ⟨("_law_led", none), "_law_led", "_law_led", defArgs (top 31), defBody (top 31), defScope (top 31), [], []⟩) rfl) (fun _ _ _ _ _ _ us hl => match us, hl with | [_, _, _], _ => rfl)
  d__law_near := DefK.of (c.t.d.def_ 10 (d := ⟨("_law_near", none), "_law_near", "_law_near", defArgs (top 29), defBody (top 29), defScope (top 29), [], []⟩) rfl) (fun _ _ _ _ _ _ us hl => match us, hl with | [_, _], _ => rfl)
  d__law_pairs := DefK.of (c.t.d.def_ 11 (d := ⟨("_law_pairs", none), "_law_pairs", "_law_pairs", defArgs (top 32), defBody (top 32), defScope (top 32), [], []⟩) rfl) (fun _ _ _ _ _ _ us hl => match us, hl with | [_], _ => rfl)
  d__law_rows := DefK.of (c.t.d.def_ 12 (d := ⟨("_law_rows", none), "_law_rows", "_law_rows", defArgs (top 27), defBody (top 27), defScope (top 27), [], []⟩) rfl) (fun _ _ _ _ _ _ us hl => match us, hl with | [_, _, _], _ => rfl)
  d__law_step := DefK.of (c.t.d.def_ 13 (d := ⟨("_law_step", none), "_law_step", "_law_step", defArgs (top 30), defBody (top 30), defScope (top 30), [], []⟩) rfl) (fun _ _ _ _ _ _ us hl => match us, hl with | [_, _, _], _ => rfl)
  d__law_told := DefK.of (c.t.d.def_ 14 (d := ⟨("_law_told", none), "_law_told", "_law_told", defArgs (top 35), defBody (top 35), defScope (top 35), [], []⟩) rfl) (fun _ _ _ _ _ _ us hl => match us, hl with | [_, _], _ => rfl)
  d_alike_fault := DefK.of (c.t.d.def_ 15 (d := ⟨("alike_fault", none), "alike_fault", "alike_fault", defArgs (top 24), defBody (top 24), defScope (top 24), [], []⟩) rfl) (fun _ _ _ _ _ _ us hl => match us, hl with | [_, _], _ => rfl)
  d_are_pairs := DefK.of (c.t.d.def_ 16 (d := ⟨("are_pairs", none), "are_pairs", "are_pairs", defArgs (top 22), defBody (top 22), defScope (top 22), [], []⟩) rfl) (fun _ _ _ _ _ _ us hl => match us, hl with | [_, _], _ => rfl)
  d_check_open := DefK.of (c.t.d.def_ 17 (d := ⟨("check_open", none), "check_open", "check_open", defArgs (top 13), defBody (top 13), defScope (top 13), [], []⟩) rfl) (fun _ _ _ _ _ _ us hl => match us, hl with | [_, _], _ => rfl)
  d_is_cell := DefK.of (c.t.d.def_ 18 (d := ⟨("is_cell", none), "is_cell", "is_cell", defArgs (top 11), defBody (top 11), defScope (top 11), [], []⟩) rfl) (fun _ _ _ _ _ _ us hl => match us, hl with | [_, _], _ => rfl)
  d_is_open := DefK.of (c.t.d.def_ 19 (d := ⟨("is_open", none), "is_open", "is_open", defArgs (top 12), defBody (top 12), defScope (top 12), [], []⟩) rfl) (fun _ _ _ _ _ _ us hl => match us, hl with | [_, _], _ => rfl)
  d_is_whole := DefK.of (c.t.d.def_ 20 (d := ⟨("is_whole", none), "is_whole", "is_whole", defArgs (top 9), defBody (top 9), defScope (top 9), [], []⟩) rfl) (fun _ _ _ _ _ _ us hl => match us, hl with | [_, _, _], _ => rfl)
  d_is_word := DefK.of (c.t.d.def_ 21 (d := ⟨("is_word", none), "is_word", "is_word", defArgs (top 17), defBody (top 17), defScope (top 17), [], []⟩) rfl) (fun _ _ _ _ _ _ us hl => match us, hl with | [_], _ => rfl)
  d_law := DefK.of (c.t.d.def_ 22 (d := ⟨("law", none), "law", "law", defArgs (top 39), defBody (top 39), defScope (top 39), [], []⟩) rfl) (fun _ _ _ _ _ _ us hl => match us, hl with | [_], _ => rfl)
  d_report := DefK.of (c.t.d.def_ 23 (d := ⟨("report", none), "report", "report", defArgs (top 21), defBody (top 21), defScope (top 21), [], []⟩) rfl) (fun _ _ _ _ _ _ us hl => match us, hl with | [_, _, _], _ => rfl)
  d_stepped := DefK.of (c.t.d.def_ 24 (d := ⟨("stepped", none), "stepped", "stepped", defArgs (top 19), defBody (top 19), defScope (top 19), [], []⟩) rfl) (fun _ _ _ _ _ _ us hl => match us, hl with | [_, _, _], _ => rfl)
  d_told := DefK.of (c.t.d.def_ 25 (d := ⟨("told", none), "told", "told", defArgs (top 20), defBody (top 20), defScope (top 20), [], []⟩) rfl) (fun _ _ _ _ _ _ us hl => match us, hl with | [_, _, _], _ => rfl)
  fld_Maze_height := fldOk_of (c.t.d.fact 0 (f := .cls "Maze") rfl) (c.t.d.fact 1 (f := .noat "Maze" "height") rfl)
  fld_Maze_rows := fldOk_of (c.t.d.fact 0 (f := .cls "Maze") rfl) (c.t.d.fact 2 (f := .noat "Maze" "rows") rfl)
  fld_Maze_width := fldOk_of (c.t.d.fact 0 (f := .cls "Maze") rfl) (c.t.d.fact 3 (f := .noat "Maze" "width") rfl)
  b_abs := He.free_ok X G (c.t.d.fact 4 (f := .free "abs") rfl)
  b_all := He.free_ok X G (c.t.d.fact 5 (f := .free "all") rfl)
  b_any := He.free_ok X G (c.t.d.fact 6 (f := .free "any") rfl)
  b_bool := He.free_ok X G (c.t.d.fact 7 (f := .free "bool") rfl)
  b_int := He.free_ok X G (c.t.d.fact 8 (f := .free "int") rfl)
  b_isinstance := He.free_ok X G (c.t.d.fact 9 (f := .free "isinstance") rfl)
  b_len := He.free_ok X G (c.t.d.fact 10 (f := .free "len") rfl)
  b_list := He.free_ok X G (c.t.d.fact 11 (f := .free "list") rfl)
  b_max := He.free_ok X G (c.t.d.fact 12 (f := .free "max") rfl)
  b_min := He.free_ok X G (c.t.d.fact 13 (f := .free "min") rfl)
  b_range := He.free_ok X G (c.t.d.fact 14 (f := .free "range") rfl)
  b_set := He.free_ok X G (c.t.d.fact 15 (f := .free "set") rfl)
  b_sorted := He.free_ok X G (c.t.d.fact 16 (f := .free "sorted") rfl)
  b_str := He.free_ok X G (c.t.d.fact 17 (f := .free "str") rfl)
  b_tuple := He.free_ok X G (c.t.d.fact 18 (f := .free "tuple") rfl)
  g_Maze := He.glo_ok X G (c.t.d.fact 19 (f := .glo "Maze") rfl)
  g_OTHERS := He.glo_ok X G (c.t.d.fact 20 (f := .glo "OTHERS") rfl)
  g_STEPS := He.glo_ok X G (c.t.d.fact 21 (f := .glo "STEPS") rfl)
  g__check := He.glo_ok X G (c.t.d.fact 22 (f := .glo "_check") rfl)
  g__law_alike := He.glo_ok X G (c.t.d.fact 23 (f := .glo "_law_alike") rfl)
  g__law_behind := He.glo_ok X G (c.t.d.fact 24 (f := .glo "_law_behind") rfl)
  g__law_bent := He.glo_ok X G (c.t.d.fact 25 (f := .glo "_law_bent") rfl)
  g__law_cells := He.glo_ok X G (c.t.d.fact 26 (f := .glo "_law_cells") rfl)
  g__law_draws := He.glo_ok X G (c.t.d.fact 27 (f := .glo "_law_draws") rfl)
  g__law_due := He.glo_ok X G (c.t.d.fact 28 (f := .glo "_law_due") rfl)
  g__law_is_cell := He.glo_ok X G (c.t.d.fact 29 (f := .glo "_law_is_cell") rfl)
  g__law_led := He.glo_ok X G (c.t.d.fact 30 (f := .glo "_law_led") rfl)
  g__law_near := He.glo_ok X G (c.t.d.fact 31 (f := .glo "_law_near") rfl)
  g__law_pairs := He.glo_ok X G (c.t.d.fact 32 (f := .glo "_law_pairs") rfl)
  g__law_rows := He.glo_ok X G (c.t.d.fact 33 (f := .glo "_law_rows") rfl)
  g__law_step := He.glo_ok X G (c.t.d.fact 34 (f := .glo "_law_step") rfl)
  g__law_told := He.glo_ok X G (c.t.d.fact 35 (f := .glo "_law_told") rfl)
  g_alike_fault := He.glo_ok X G (c.t.d.fact 36 (f := .glo "alike_fault") rfl)
  g_are_pairs := He.glo_ok X G (c.t.d.fact 37 (f := .glo "are_pairs") rfl)
  g_check_open := He.glo_ok X G (c.t.d.fact 38 (f := .glo "check_open") rfl)
  g_is_cell := He.glo_ok X G (c.t.d.fact 39 (f := .glo "is_cell") rfl)
  g_is_open := He.glo_ok X G (c.t.d.fact 40 (f := .glo "is_open") rfl)
  g_is_whole := He.glo_ok X G (c.t.d.fact 41 (f := .glo "is_whole") rfl)
  g_is_word := He.glo_ok X G (c.t.d.fact 42 (f := .glo "is_word") rfl)
  g_law := He.glo_ok X G (c.t.d.fact 43 (f := .glo "law") rfl)
  g_report := He.glo_ok X G (c.t.d.fact 44 (f := .glo "report") rfl)
  g_stepped := He.glo_ok X G (c.t.d.fact 45 (f := .glo "stepped") rfl)
  g_told := He.glo_ok X G (c.t.d.fact 46 (f := .glo "told") rfl)
  i_MOST := He.int_ok X G (c.t.d.fact 47 (f := .int "MOST" 14) rfl)
  mk_Maze := He.mkr_ok (c.t.d.fact 48 (f := .mkr "Maze") rfl)
  ra_BadCell := ⟨He.exc_ok (c.t.d.fact 49 (f := .exc "BadCell") rfl), He.glo_ok X G (c.t.d.fact 50 (f := .glo "BadCell") rfl)⟩
  ra_BadMaze := ⟨He.exc_ok (c.t.d.fact 51 (f := .exc "BadMaze") rfl), He.glo_ok X G (c.t.d.fact 52 (f := .glo "BadMaze") rfl)⟩
  ra_BadWord := ⟨He.exc_ok (c.t.d.fact 53 (f := .exc "BadWord") rfl), He.glo_ok X G (c.t.d.fact 54 (f := .glo "BadWord") rfl)⟩
  s_OPEN := He.str_ok X G (c.t.d.fact 55 (f := .str "OPEN" ".") rfl)
  s_SIGNS := He.str_ok X G (c.t.d.fact 56 (f := .str "SIGNS" "dlru") rfl)
  t_OTHERS := ktab_of (saysT_dic c.t 0 (t := (fun K => He.ga K "OTHERS", tb_OTHERS.map (·.1))) rfl) (allB (l := exl K) c.more 0 rfl)
  t_STEPS := ktab_of (saysT_dic c.t 1 (t := (fun K => He.ga K "STEPS", tb_STEPS.map (·.1))) rfl) (allB (l := exl K) c.more 1 rfl)
-- law level 7  top index (top 39)
end K73

namespace K73
open PySem L2 PP PC
open PP.Res (ok exc bad)
theorem sortOk_qQ (l : List Q2) : sortOk (l.map qQ) = true := by
  unfold sortOk
  simp only [Bool.and_eq_true, Bool.or_eq_true, List.all_eq_true, decide_eq_true_eq]
  refine ⟨⟨fun x hx y hy => ?_, .inl fun x hx => ?_⟩, fun x hx => ?_⟩
  · obtain ⟨a, _, rfl⟩ := List.mem_map.mp hx
    obtain ⟨b, _, rfl⟩ := List.mem_map.mp hy
    exact alike_qQ a b
  · obtain ⟨a, _, rfl⟩ := List.mem_map.mp hx
    rfl
  · obtain ⟨a, _, rfl⟩ := List.mem_map.mp hx
    exact Nat.le_trans (sh_qQ a).2 (by decide)
theorem ssn_pp {xs : List Q2} (h : xs.length ≤ 2000) : dSSN [.tup (xs.map pp)] = some (.lst (((nub xs).mergeSort leQ).map pp)) :=
  ssn_map embQ toPD_pp leQ_data leQ_tot leQ_tr (fun a b => leQ_anti) (sortOk_qQ xs) h
theorem bent_ok {ds : List Int} {C : List P2} {xs : List Q2} (hC : 0 < C.length) (hl : C.length ≤ 42) (h3 : 3 ≤ ds.length) (hx : xs.length ≤ 882) :
    ∃ vs, F__law_bent [.lst (ds.map .int), tp C, .tup (xs.map pp)] = ok (.lst vs) ∧ ∀ v ∈ vs, Okv v := by
  obtain ⟨k0, e0, l0⟩ := mod_bd (a := ds.getD 0 0) hC
  obtain ⟨k1, e1, l1⟩ := mod_bd (a := ds.getD 1 0) hC
  let A : D := .lst (ds.map .int)
  let V : D := .tup (xs.map pp)
  let a := C.getD k0 z0
  let b := C.getD k1 z0
  let pr := ord2 a b
  have lenC : ∀ ρ : Sls, mVar 1 ρ = ok (tp C) → mBI dLenX [mVar 1] ρ = ok (.int (C.length : Int)) := fun ρ e => by
    have := PC.i_lenT (l := C.map pt) e
    rwa [List.length_map] at this
  have lenV : ∀ ρ : Sls, mVar 2 ρ = ok V → mBI dLenX [mVar 2] ρ = ok (.int (xs.length : Int)) := fun ρ e => by
    have := PC.i_lenT (l := xs.map pp) e
    rwa [List.length_map] at this
  have at_ : ∀ (ρ : Sls) (i : Int) (j : Nat) (k : Nat), i = j → mVar 0 ρ = ok A → mVar 1 ρ = ok (tp C) → j < ds.length → ds.getD j 0 % (C.length : Int) = k → k < C.length →
      mOp2 dIxX (mVar 1) (mOp2 dMod (mBI dInt [(mOp2 dIxX (mVar 0) (mC (.int i)))]) (mBI dLenX [(mVar 1)])) ρ = ok (pt (C.getD k z0)) := fun ρ i j k hi eA eC hj ek hk => by
    have m := i_mod (dr_ev hj eA (g := mC (.int i)) rfl hi) (lenC ρ eC)
    rw [ek] at m
    exact op2_ev eC m (ix_tup (emb := pt) z0 hk)
  let ρ0 : Sls := [.fz A, .fz (tp C), .fz V, .no, .no, .no, .no, .no, .no]
  let ρ1 : Sls := [.fz A, .fz (tp C), .fz V, .fz (pt a), .fz (pt b), .no, .no, .no, .no]
  let ρ2 : Sls := [.fz A, .fz (tp C), .fz V, .fz (pt a), .fz (pt b), .fz (pp pr), .no, .no, .no]
  have s1 : sPar 3 4 (mOp2 dIxX (mVar 1) (mOp2 dMod (mBI dInt [(mOp2 dIxX (mVar 0) (mC (.int 0)))]) (mBI dLenX [(mVar 1)]))) (mOp2 dIxX (mVar 1) (mOp2 dMod (mBI dInt [(mOp2 dIxX (mVar 0) (mC (.int 1)))]) (mBI dLenX [(mVar 1)]))) ρ0 = .nx ρ1 :=
    par_ev (at_ ρ0 0 0 k0 rfl rfl rfl (by omega) e0 l0) (at_ ρ0 1 1 k1 rfl rfl rfl (by omega) e1 l1)
  have s2 : sSet 5 (mTup [(mBI dMinX [(mVar 3), (mVar 4)]), (mBI dMaxX [(mVar 3), (mVar 4)])]) ρ1 = .nx ρ2 := set_ev (ord2_ev rfl rfl)
  have v2 : ∀ ρ : Sls, mVar 2 ρ = ok V → EvT 882 (mVar 2) ρ := fun ρ e => (EvT.pps e).more hx
  have v3 : ∀ ρ : Sls, mVar 3 ρ = ok (pt a) → Ev (mVar 3) ρ := fun ρ e => Ev.pt e
  have v4 : ∀ ρ : Sls, mVar 4 ρ = ok (pt b) → Ev (mVar 4) ρ := fun ρ e => Ev.pt e
  have v5 : Ev (mVar 5) ρ2 := Ev.pp (p := pr) rfl
  have L1 : EvL 13 (mLst [(mVar 2), (mBI dList [(mVar 2)]), (mC .non), (mC (.int 7)), (mTup []), (mSl dSl (mVar 2) (mPart (mC (.int 1))) mNoPart), (mSl dSl (mVar 2) mNoPart (mPart (mOp1 dNeg (mC (.int 1))))), (mOp1 dRevT (mVar 2)), (mOp2 dAdd (mVar 2) (mSl dSl (mVar 2) (mPart (mOp1 dNeg (mC (.int 1)))) mNoPart)), (mTup [(mVar 5)]), (mBI dTuple [(mCall F__law_pairs [(mVar 1)])]), (mOp2 dAdd (mVar 2) (mTup [(mTup [(mVar 3), (mVar 3)])])), (mOp2 dAdd (mVar 2) (mTup [(mTup [(mOp2 dIxX (mVar 5) (mC (.int 1))), (mOp2 dIxX (mVar 5) (mC (.int 0)))])]))]) ρ2 := by
    have w := v2 ρ2 rfl
    have p1 : EvT 882 (mBI dTuple [(mCall F__law_pairs [(mVar 1)])]) ρ2 := by
      have lp := prs_len C
      have : C.length * C.length ≤ 42 * 42 := Nat.mul_le_mul hl hl
      exact EvT.more (EvT.pps (xs := prsOf C) (bi1 (call_ev (args_ev rfl args0) (pairs_ok C (by omega))) rfl)) (by omega)
    exact EvA.lst (EvA.cons (w.ev) (EvA.cons w.list (EvA.cons .non (EvA.cons .int (EvA.cons (EvT.ev (EvA.tup EvA.nil)) (EvA.cons (w.sl (part_i (i := 1) rfl) part_n).ev (EvA.cons (w.sl part_n (part_i (i := -1) rfl)).ev (EvA.cons w.rev.ev
      (EvA.cons (w.add (w.last rfl)).ev (EvA.cons (EvT.ev (EvA.tup (EvA.cons v5 EvA.nil))) (EvA.cons p1.ev (EvA.cons (w.add (EvA.tup (EvA.cons (EvT.ev (EvA.tup (EvA.cons (v3 _ rfl) (EvA.cons (v3 _ rfl) EvA.nil)))) EvA.nil))).ev
      (EvA.cons (w.add (EvA.tup (EvA.cons (EvT.ev (EvA.tup (EvA.cons (Ev.pt (p := pr.2) (op2_ev rfl rfl rfl)) (EvA.cons (Ev.pt (p := pr.1) (op2_ev rfl rfl rfl)) EvA.nil)))) EvA.nil))).ev EvA.nil)))))))))))))
  obtain ⟨f1, g1, o1, z1⟩ := L1
  let ρ3 : Sls := [.fz A, .fz (tp C), .fz V, .fz (pt a), .fz (pt b), .fz (pp pr), .fz (.lst f1), .no, .no]
  have L2 : EvL 21 (mOp2 dAdd (mOp2 dAdd (mVar 6) (mLst [(mBI dTuple [(mBI dSSN [(mOp2 dAdd (mVar 2) (mTup [(mVar 5)]))])])])) (mLc (mIt (mLst [(mC .non), (mTup [(mVar 3)]), (mLst [(mVar 3), (mVar 4)]), (mTup [(mVar 3), (mTup [(mC (.int 99)), (mC (.int 0))])]), (mTup [(mC .non), (mVar 4)]), (mTup [(mTup [(mC (.int 0)), (mC (.bl true))]), (mTup [(mC (.int 0)), (mC (.int 2))])]), (mTup [(mVar 3), (mVar 4), (mVar 3)])])) [8] (tgName 8) mYes (mOp2 dAdd (mVar 2) (mTup [(mVar 8)])))) ρ3 := by
    have w := v2 ρ3 rfl
    have q1 : EvT 883 (mBI dTuple [(mBI dSSN [(mOp2 dAdd (mVar 2) (mTup [(mVar 5)]))])]) ρ3 := by
      have e : mOp2 dAdd (mVar 2) (mTup [(mVar 5)]) ρ3 = ok (.tup ((xs ++ [pr]).map pp)) := by
        rw [List.map_append]
        exact op2_ev (a := V) rfl (tup_ev (args_ev (a := pp pr) rfl args0)) (dAdd_tup (by rw [List.length_map]; show _ + 1 ≤ _; omega))
      refine EvT.more (EvT.pps (xs := (nub (xs ++ [pr])).mergeSort leQ) (bi1 (bi1 e (ssn_pp (by rw [List.length_append]; show _ + 1 ≤ _; omega))) rfl)) ?_
      rw [List.length_mergeSort]
      refine Nat.le_trans (nub_len _) ?_
      rw [List.length_append]
      show _ + 1 ≤ _
      omega
    have i0 : EvL 7 (mLst [(mC .non), (mTup [(mVar 3)]), (mLst [(mVar 3), (mVar 4)]), (mTup [(mVar 3), (mTup [(mC (.int 99)), (mC (.int 0))])]), (mTup [(mC .non), (mVar 4)]), (mTup [(mTup [(mC (.int 0)), (mC (.bl true))]), (mTup [(mC (.int 0)), (mC (.int 2))])]), (mTup [(mVar 3), (mVar 4), (mVar 3)])]) ρ3 :=
      EvA.lst (EvA.cons .non (EvA.cons (EvT.ev (EvA.tup (EvA.cons (v3 _ rfl) EvA.nil))) (EvA.cons (EvL.ev (EvA.lst (EvA.cons (v3 _ rfl) (EvA.cons (v4 _ rfl) EvA.nil))))
        (EvA.cons (EvT.ev (EvA.tup (EvA.cons (v3 _ rfl) (EvA.cons (EvT.ev (EvA.tup (EvA.cons .int (EvA.cons .int EvA.nil)))) EvA.nil))))
        (EvA.cons (EvT.ev (EvA.tup (EvA.cons .non (EvA.cons (v4 _ rfl) EvA.nil))))
        (EvA.cons (EvT.ev (EvA.tup (EvA.cons (EvT.ev (EvA.tup (EvA.cons .int (EvA.cons .bl EvA.nil)))) (EvA.cons (EvT.ev (EvA.tup (EvA.cons .int (EvA.cons .int EvA.nil)))) EvA.nil))))
        (EvA.cons (EvT.ev (EvA.tup (EvA.cons (v3 _ rfl) (EvA.cons (v4 _ rfl) (EvA.cons (v3 _ rfl) EvA.nil))))) EvA.nil)))))))
    obtain ⟨is, gi, oi, zi⟩ := i0
    have q2 : EvL 7 (mLc (mIt (mLst [(mC .non), (mTup [(mVar 3)]), (mLst [(mVar 3), (mVar 4)]), (mTup [(mVar 3), (mTup [(mC (.int 99)), (mC (.int 0))])]), (mTup [(mC .non), (mVar 4)]), (mTup [(mTup [(mC (.int 0)), (mC (.bl true))]), (mTup [(mC (.int 0)), (mC (.int 2))])]), (mTup [(mVar 3), (mVar 4), (mVar 3)])])) [8] (tgName 8) mYes (mOp2 dAdd (mVar 2) (mTup [(mVar 8)]))) ρ3 := by
      refine lc_ex (ds := is) (it_ev (u := .lst is) gi rfl) zi fun x hx => ⟨[.fz A, .fz (tp C), .fz V, .fz (pt a), .fz (pt b), .fz (pp pr), .fz (.lst f1), .no, .fz x], rfl, ?_⟩
      exact ((v2 _ rfl).add (EvA.tup (EvA.cons ⟨x, rfl, oi x hx⟩ EvA.nil))).ev
    exact EvL.add (EvL.add ⟨f1, rfl, o1, z1⟩ (EvA.lst (EvA.cons q1.ev EvA.nil))) q2
  obtain ⟨f2, g2, o2, z2⟩ := L2
  let ρ4 : Sls := [.fz A, .fz (tp C), .fz V, .fz (pt a), .fz (pt b), .fz (pp pr), .fz (.lst f2), .no, .no]
  have c5 : mT (mOp2 dGtX (mBI dLenX [(mVar 2)]) (mC (.int 0))) ρ4 = ok (decide ((0 : Int) < xs.length)) := t_ev (op2_ev (lenV ρ4 rfl) rfl rfl)
  by_cases h0 : 0 < xs.length
  · rw [decide_eq_true (by omega)] at c5
    obtain ⟨k, ek, lk⟩ := mod_bd (a := ds.getD 2 0) h0
    let ρ5 : Sls := [.fz A, .fz (tp C), .fz V, .fz (pt a), .fz (pt b), .fz (pp pr), .fz (.lst f2), .fz (.int (k : Int)), .no]
    have s5 : sSet 7 (mOp2 dMod (mBI dInt [(mOp2 dIxX (mVar 0) (mC (.int 2)))]) (mBI dLenX [(mVar 2)])) ρ4 = .nx ρ5 := set_ev (by
      have m := i_mod (dr_ev (ds := ds) (k := 2) (by omega) (f := mVar 0) (g := mC (.int 2)) (ρ := ρ4) rfl rfl rfl) (lenV ρ4 rfl)
      rw [ek] at m
      exact m)
    have t1 : mSl dSl (mVar 2) mNoPart (mPart (mVar 7)) ρ5 = ok (.tup ((xs.take k).map pp)) := sl_to (k := (k : Int)) (u := V) rfl rfl (by
      show some (D.tup (cutD (xs.map pp) none (some (k : Int)))) = _
      rw [cutD_to (by omega), Int.toNat_natCast, List.map_take])
    have t2 : mSl dSl (mVar 2) (mPart (mOp2 dAdd (mVar 7) (mC (.int 1)))) mNoPart ρ5 = ok (.tup ((xs.drop (k + 1)).map pp)) := sl_from (k := (k : Int) + 1) (u := V) rfl (i_add rfl rfl) (by
      show some (D.tup (cutD (xs.map pp) (some ((k : Int) + 1)) none)) = _
      rw [cutD_from (by omega), show ((k : Int) + 1).toNat = k + 1 by omega, List.map_drop])
    have lt1 : (xs.take k).length = k := by rw [List.length_take]; omega
    have lt2 : (xs.drop (k + 1)).length = xs.length - (k + 1) := List.length_drop
    have u1 : EvT 882 (mOp2 dAdd (mSl dSl (mVar 2) mNoPart (mPart (mVar 7))) (mSl dSl (mVar 2) (mPart (mOp2 dAdd (mVar 7) (mC (.int 1)))) mNoPart)) ρ5 :=
      EvT.more (EvT.add (EvT.pps t1) (EvT.pps t2) (by omega)) (by omega)
    have u2 : EvT 883 (mOp2 dAdd (mOp2 dAdd (mSl dSl (mVar 2) mNoPart (mPart (mVar 7))) (mTup [(mVar 5)])) (mSl dSl (mVar 2) (mPart (mOp2 dAdd (mVar 7) (mC (.int 1)))) mNoPart)) ρ5 :=
      EvT.more (EvT.add (EvT.add (EvT.pps t1) (EvA.tup (EvA.cons (Ev.pp (p := pr) (f := mVar 5) rfl) EvA.nil)) (by show _ + 1 ≤ _; omega)) (EvT.pps t2) (by show _ + 1 + _ ≤ _; omega)) (by show _ + 1 + _ ≤ _; omega)
    obtain ⟨f3, g3, o3, z3⟩ := EvL.add (f := mVar 6) (ρ := ρ5) ⟨f2, rfl, o2, z2⟩ (EvA.lst (EvA.cons u1.ev (EvA.cons u2.ev EvA.nil)))
    refine ⟨f3, runF_rt (seq_nx2 s1 (seq_nx2 s2 (seq_nx2 (set_ev g1) (seq_nx2 (set_ev g2) (seq_nx2 ((if_t c5).trans (seq_nx2 s5 (set_ev g3))) (ret_ev rfl)))))), o3⟩
  · rw [decide_eq_false (by omega)] at c5
    exact ⟨f2, runF_rt (seq_nx2 s1 (seq_nx2 s2 (seq_nx2 (set_ev g1) (seq_nx2 (set_ev g2) (seq_nx2 (if_nx c5) (ret_ev rfl)))))), o2⟩
end K73

namespace K73
open PySem L2 PP PC
open PP.Res (ok exc bad)
/-! ### rows, and the rows again below a wall -/
def dbl (rows : List (List Nat)) (w : Nat) : List (List Nat) := rows ++ List.replicate w 35 :: rows
theorem dbl_ok {rows : List (List Nat)} {h w : Nat} (R : OkRows rows h w) (hh : h ≤ 6) : OkRows (dbl rows w) (h + 1 + h) w where
  len := by unfold dbl; rw [List.length_append, List.length_cons, R.len]; omega
  wid := fun l hl => by
    unfold dbl at hl
    rcases List.mem_append.mp hl with q | q
    · exact R.wid l q
    · rcases List.mem_cons.mp q with q | q
      · rw [q, List.length_replicate]
      · exact R.wid l q
  sgn := fun l hl c hc => by
    unfold dbl at hl
    rcases List.mem_append.mp hl with q | q
    · exact R.sgn l q c hc
    · rcases List.mem_cons.mp q with q | q
      · rw [q] at hc
        exact .inl (List.eq_of_mem_replicate hc)
      · exact R.sgn l q c hc
  h1 := by omega
  h2 := by omega
  w1 := R.w1
  w2 := R.w2
theorem mul_hash (w : Nat) (h1 : 1 ≤ w) (h2 : w ≤ 14) : dMulY (.str "#") (.int (w : Int)) = some (tx (List.replicate w 35)) := by
  have e : Txt.mul (mkS [35]) (w : Int) = mkS (List.replicate w 35) := by
    have : w = 1 ∨ w = 2 ∨ w = 3 ∨ w = 4 ∨ w = 5 ∨ w = 6 ∨ w = 7 ∨ w = 8 ∨ w = 9 ∨ w = 10 ∨ w = 11 ∨ w = 12 ∨ w = 13 ∨ w = 14 := by omega
    rcases this with h | h | h | h | h | h | h | h | h | h | h | h | h | h <;> (subst h; decide +kernel)
  show (if (Str.ofString "#").length ≤ 16 ∧ -1000 ≤ (w : Int) ∧ (w : Int) ≤ 1000 then some (D.str (Txt.mul (Str.ofString "#") w)) else none) = _
  rw [lit_hash, if_pos ⟨by rw [mkS_length]; decide, by omega, by omega⟩, e]
theorem dbl_ev {rows : List (List Nat)} {h w : Nat} (R : OkRows rows h w) {ρ : Sls} (e : mVar 3 ρ = ok (rowsD rows)) :
    mOp2 dAdd (mOp2 dAdd (mVar 3) (mTup [(mOp2 dMulY (mC (.str "#")) (mBI dLenX [(mOp2 dIxX (mVar 3) (mC (.int 0)))]))])) (mVar 3) ρ = ok (rowsD (dbl rows w)) := by
  have hl := R.len
  have h1 := R.h1
  have h2 := R.h2
  have w1 := R.w1
  have w2 := R.w2
  obtain ⟨a, r, rfl⟩ : ∃ a r, rows = a :: r := by
    cases rows with
    | nil => simp at hl; omega
    | cons a r => exact ⟨a, r, rfl⟩
  have wa := R.wid a (by simp)
  have e0 : mOp2 dIxX (mVar 3) (mC (.int 0)) ρ = ok (tx a) := op2_ev e rfl (ix_tup0 (emb := tx) (l := a :: r) [] (by simp))
  have e1 : mBI dLenX [(mOp2 dIxX (mVar 3) (mC (.int 0)))] ρ = ok (.int (w : Int)) := by
    rw [← wa]
    exact bi1 e0 (dLen_tx (by omega))
  have e2 : mOp2 dMulY (mC (.str "#")) (mBI dLenX [(mOp2 dIxX (mVar 3) (mC (.int 0)))]) ρ = ok (tx (List.replicate w 35)) := op2_ev rfl e1 (mul_hash w w1 w2)
  have ll : (rowsL (a :: r)).length = h := by rw [← hl]; exact List.length_map _
  refine (op2_ev (op2_ev e (tup_ev (args_ev e2 args0)) (dAdd_tup (by rw [ll]; show _ + 1 ≤ _; omega))) e (dAdd_tup (by rw [List.length_append, ll]; show _ + 1 + _ ≤ _; omega))).trans ?_
  show _ = ok (D.tup (rowsL (dbl (a :: r) w)))
  unfold dbl rowsL
  rw [List.map_append, List.map_cons, List.append_assoc]
  rfl
/-! ### words that are drawn -/
def wch (d : Int) (n : Nat) : Nat := dirs.getD (d / ((n : Int) + 1) % 4).toNat 100
theorem wch_dir (d : Int) (n : Nat) : wch d n ∈ dirs := by
  unfold wch
  refine getD_mem 100 ?_
  have z1 := Int.emod_nonneg (d / ((n : Int) + 1)) (show (4 : Int) ≠ 0 by decide)
  have z2 := Int.emod_lt_of_pos (d / ((n : Int) + 1)) (show (0 : Int) < 4 by decide)
  show _ < 4
  omega
theorem word_ev {ρ : Sls} {s : Nat} {f : Sls → Res D} {d : Int} (hf : ∀ ρ' n, tgName s (.int ((n : Nat) : Int)) (wipeS ρ [s]) = ok ρ' → f ρ' = ok (.int d) ∧ mVar s ρ' = ok (.int (n : Int))) (ht : ∀ n : Nat, ∃ ρ', tgName s (.int (n : Int)) (wipeS ρ [s]) = ok ρ') :
    mM1 dJoin (mC (.str "")) (mLc (mRng rng1 [(mC (.int 20))]) [s] (tgName s) mYes (mOp2 dIxX (mC (.str "dlru")) (mOp2 dMod (mOp2 dDiv f (mOp2 dAdd (mVar s) (mC (.int 1)))) (mC (.int 4))))) ρ = ok (tx ((List.range 20).map (wch d))) := by
  refine m1_ev (v := .lst ((List.range 20).map fun n => tx [wch d n])) rfl (lc_ev0 (as := List.range 20) (emb := fun n : Nat => D.int (n : Int)) (rng_int rfl (by decide) (by decide) (by decide)) fun n hn => ?_) ?_
  · have hn' := List.mem_range.mp hn
    obtain ⟨ρ', e⟩ := ht n
    obtain ⟨e1, e2⟩ := hf ρ' n e
    refine ⟨ρ', e, ?_⟩
    have z1 := Int.emod_nonneg (d / ((n : Int) + 1)) (show (4 : Int) ≠ 0 by decide)
    have z2 := Int.emod_lt_of_pos (d / ((n : Int) + 1)) (show (0 : Int) < 4 by decide)
    refine op2_ev rfl (i_mod (i_div e1 (i_add e2 rfl) (by omega) (by omega)) rfl) ?_
    rw [lit_dlru]
    refine (PC.dIx_tx (l := dirs) (by simp) z1).trans ?_
    unfold wch
    generalize d / ((n : Int) + 1) % 4 = z at z1 z2
    obtain ⟨m, rfl⟩ := Int.eq_ofNat_of_zero_le z1
    have hm : m < 4 := by omega
    match m, hm with
    | 0, _ => rfl
    | 1, _ => rfl
    | 2, _ => rfl
    | 3, _ => rfl
  · rw [lit_nil]
    exact dJoin_ones (wch d) _ (by rw [List.length_range]; omega)
/-! ### one value -/
section
variable {rows : List (List Nat)} {h w : Nat}
/-- the alike pairs -/
def alk (rows : List (List Nat)) (h w : Nat) : List Q2 := (prsOf (cellsOf rows h w)).filter fun x => !decide (x ∈ keys (toldOf rows h w))
abbrev alD (rows : List (List Nat)) (h w : Nat) : D := .tup ((alk rows h w).map pp)
abbrev mkK (rows : List (List Nat)) (h w : Nat) (sc A tu : D) (s8 s9 s10 s11 s12 s13 : Sl) : Sls :=
  [.fz sc, .fz A, .fz tu, .fz (rowsD rows), .fz (mz rows h w), .fz (cD rows h w), .fz (kd (toldOf rows h w)), .fz (alD rows h w), s8, s9, s10, s11, s12, s13, .no, .no]
def InvK (rows : List (List Nat)) (h w : Nat) (sc A tu : D) (ρ : Sls) : Prop := ∃ s8 s9 s10 s11 s12 s13, ρ = mkK rows h w sc A tu s8 s9 s10 s11 s12 s13
def due (rows : List (List Nat)) (h w : Nat) (v : D) : D := if goodA rows h w v = true then resF rows h w ((match v with | .tup ds => ds | _ => []).map dq) else form
theorem dat_form : Dat 5 form := .tup (all_cons (.str _ (by decide +kernel)) all_nil)
theorem dat_ans (x : Q2) {c : Nat} (hc : c ∈ dirs) : Dat 5 (ansS x c) := .tup (all_cons (.str _ (by decide +kernel)) (all_cons (Dat.pt _) (all_cons (Dat.pt _) (all_cons (.str _ (by
  have : ∀ c ∈ dirs, PyData.strOk ⟨#[c]⟩ = true := by decide +kernel
  exact this c hc)) all_nil))))
theorem due_case (v : D) : (∃ xs, due rows h w v = .tup xs ∧ Dat 5 (.tup xs)) ∨ (due rows h w v = .non ∧ ∃ xs : List Q2, v = .tup (xs.map pp) ∧ ClosedP rows h w xs) := by
  unfold due
  by_cases g : goodA rows h w v = true
  · rw [if_pos g]
    obtain ⟨xs, rfl, px, asc⟩ := goodA_some g
    rw [dq_pps]
    unfold resF
    cases q : xs.find? fun x => (badX rows h w xs x).isSome with
    | some x =>
      have hx := List.find?_some q
      obtain ⟨c, hc⟩ := Option.isSome_iff_exists.mp hx
      refine .inl ⟨_, rfl, dat_ans x ?_⟩
      rw [hc]
      exact List.mem_of_find?_eq_some hc
    | none =>
      refine .inr ⟨rfl, xs, rfl, fun x hx c hc => ?_⟩
      have h1 := List.find?_eq_none.mp q x hx
      have h2 : badX rows h w xs x = none := by
        cases z : badX rows h w xs x with
        | none => rfl
        | some c => rw [z] at h1; exact absurd rfl h1
      have h3 := List.find?_eq_none.mp h2 c hc
      have h3 : badS rows h w xs x c = false := by simpa using h3
      unfold badS at h3
      rw [Bool.or_eq_false_iff, Bool.and_eq_false_iff] at h3
      refine ⟨by simpa using h3.1, ?_⟩
      rcases h3.2 with z | z
      · exact .inl (by simpa using z)
      · exact .inr (by simpa using z)
  · rw [if_neg g]
    exact .inl ⟨_, rfl, dat_form⟩
noncomputable abbrev valB : Sls → Fl := (sSeq (sSet 9 (mCall F__law_due [(mVar 3), (mVar 5), (mVar 8)]))
    (sIf (mOr (mT (mOp2 dNe (mCall F_alike_fault [(mVar 4), (mVar 8)]) (mVar 9))) (mAnd (mT (mOp2 dIsX (mVar 9) (mC .non))) (mT (mBI dAny [(mLc (mIt (mVar 8)) [14] (tgName 14) mYes (mOp2 dInX (mVar 14) (mVar 6)))])))) (sRet (mC (.bl false))) sNx))
theorem val_ok (R : OkRows rows h w) (sc A tu : D) {v : D} (o : Okv v) (s9 s10 s11 s12 s13 : Sl) :
    valB (mkK rows h w sc A tu (.fz v) s9 s10 s11 s12 s13) = .nx (mkK rows h w sc A tu (.fz v) (.fz (due rows h w v)) s10 s11 s12 s13) := by
  let ρ1 := mkK rows h w sc A tu (.fz v) (.fz (due rows h w v)) s10 s11 s12 s13
  have e1 : sSet 9 (mCall F__law_due [(mVar 3), (mVar 5), (mVar 8)]) (mkK rows h w sc A tu (.fz v) s9 s10 s11 s12 s13) = .nx ρ1 := set_ev (call_ev (args_ev rfl (args_ev rfl (args_ev rfl args0))) (law_due_any R o))
  have e2 : mCall F_alike_fault [(mVar 4), (mVar 8)] ρ1 = ok (due rows h w v) := call_ev (args_ev rfl (args_ev rfl args0)) (alike_fault_any R o)
  refine seq_nx2 e1 (if_nx ?_)
  rcases due_case (rows := rows) (h := h) (w := w) v with ⟨xs, ed, dd⟩ | ⟨ed, xs, rfl, cl⟩
  · refine (or_ev (a := false) (b := false) (t_ev (op2_ev e2 rfl ?_)) fun _ => (and_ev (a := false) (b := false) (t_ev (op2_ev (b := .non) rfl rfl ?_)) fun z => nomatch z).trans rfl).trans rfl
    · rw [ed]; exact dNe_selfT dd
    · rw [ed]; rfl
  · refine (or_ev (a := false) (b := false) (t_ev (op2_ev e2 rfl ?_)) fun _ => (and_ev (a := true) (b := false) (t_ev (op2_ev (b := .non) rfl rfl ?_)) fun _ => t_ev ?_).trans rfl).trans rfl
    · rw [ed]; rfl
    · rw [ed]; rfl
    · refine (any_lcA (as := xs) (emb := pp) (q := fun x => decide (x ∈ keys (toldOf rows h w))) (it_ev rfl rfl) fun x hx => ⟨[.fz sc, .fz A, .fz tu, .fz (rowsD rows), .fz (mz rows h w), .fz (cD rows h w), .fz (kd (toldOf rows h w)), .fz (alD rows h w), .fz (.tup (xs.map pp)), .fz (due rows h w (.tup (xs.map pp))), s10, s11, s12, s13, .fz (pp x), .no], rfl, op2_ev rfl rfl (kd_in _ x)⟩).trans ?_
      congr 2
      rw [List.any_eq_false]
      intro x hx
      simpa using told_dis cl x hx
/-! ### one look -/
theorem alk_mem {x : Q2} (hx : x ∈ alk rows h w) : x ∈ prsOf (cellsOf rows h w) ∧ x ∉ keys (toldOf rows h w) := by
  have := List.mem_filter.mp hx
  exact ⟨this.1, by simpa using this.2⟩
theorem alk_len (hl : (cellsOf rows h w).length ≤ 42) : (alk rows h w).length ≤ 882 := by
  have a : (alk rows h w).length ≤ (prsOf (cellsOf rows h w)).length := List.length_filter_le _ _
  have lp := prs_len (cellsOf rows h w)
  have : (cellsOf rows h w).length * (cellsOf rows h w).length ≤ 42 * 42 := Nat.mul_le_mul hl hl
  omega
noncomputable abbrev lookB : Sls → Fl := (sSeq (sAsg (tgTup 2 (tgsCons (tgName 11) (tgsCons (tgName 12) tgsNil))) (mOp2 dIxX (mVar 7) (mOp2 dMod (mBI dInt [(mOp2 dIxX (mVar 1) (mOp2 dAdd (mC (.int 30)) (mVar 10)))]) (mBI dLenX [(mVar 7)]))))
    (sSeq (sSet 13 (mM1 dJoin (mC (.str "")) (mLc (mRng rng1 [(mC (.int 20))]) [15] (tgName 15) mYes (mOp2 dIxX (mC (.str "dlru")) (mOp2 dMod (mOp2 dDiv (mBI dInt [(mOp2 dIxX (mVar 1) (mOp2 dAdd (mC (.int 36)) (mVar 10)))]) (mOp2 dAdd (mVar 15) (mC (.int 1)))) (mC (.int 4)))))))
    (sIf (mT (mOp2 dNe (mCall F_report [(mVar 4), (mVar 11), (mVar 13)]) (mCall F_report [(mVar 4), (mVar 12), (mVar 13)]))) (sRet (mC (.bl false))) sNx)))
theorem look_ok (R : OkRows rows h w) {ds : List Int} (hl : ds.length = 50) (sc tu : D) {k : Nat} (hk : k < 6) (h0 : 0 < (alk rows h w).length) (s8 s9 s11 s12 s13 : Sl) :
    ∃ s11' s12' s13', lookB (mkK rows h w sc (.lst (ds.map .int)) tu s8 s9 (.fz (.int (k : Int))) s11 s12 s13) = .nx (mkK rows h w sc (.lst (ds.map .int)) tu s8 s9 (.fz (.int (k : Int))) s11' s12' s13') := by
  let A : D := .lst (ds.map .int)
  obtain ⟨c, ec, lc⟩ := mod_bd (a := ds.getD (30 + k) 0) h0
  let x : Q2 := (alk rows h w).getD c (z0, z0)
  have hx : x ∈ alk rows h w := getD_mem _ lc
  obtain ⟨m1, m2⟩ := alk_mem hx
  let ρ0 := mkK rows h w sc A tu s8 s9 (.fz (.int (k : Int))) s11 s12 s13
  let ρ1 := mkK rows h w sc A tu s8 s9 (.fz (.int (k : Int))) (.fz (pt x.1)) (.fz (pt x.2)) s13
  let l : List Nat := (List.range 20).map (wch (ds.getD (36 + k) 0))
  let ρ2 := mkK rows h w sc A tu s8 s9 (.fz (.int (k : Int))) (.fz (pt x.1)) (.fz (pt x.2)) (.fz (tx l))
  have e1 : sAsg (tgTup 2 (tgsCons (tgName 11) (tgsCons (tgName 12) tgsNil))) (mOp2 dIxX (mVar 7) (mOp2 dMod (mBI dInt [(mOp2 dIxX (mVar 1) (mOp2 dAdd (mC (.int 30)) (mVar 10)))]) (mBI dLenX [(mVar 7)]))) ρ0 = .nx ρ1 := by
    refine asg2_ev ?_
    have ln : mBI dLenX [(mVar 7)] ρ0 = ok (.int ((alk rows h w).length : Int)) := by
      have := PC.i_lenT (l := (alk rows h w).map pp) (f := mVar 7) (ρ := ρ0) rfl
      rwa [List.length_map] at this
    have m := i_mod (dr_ev (ds := ds) (k := 30 + k) (by omega) (f := mVar 1) (g := mOp2 dAdd (mC (.int 30)) (mVar 10)) (ρ := ρ0) rfl (i_add rfl rfl) (by omega)) ln
    rw [ec] at m
    exact op2_ev rfl m (ix_tup (emb := pp) (z0, z0) lc)
  have e2 : sSet 13 (mM1 dJoin (mC (.str "")) (mLc (mRng rng1 [(mC (.int 20))]) [15] (tgName 15) mYes (mOp2 dIxX (mC (.str "dlru")) (mOp2 dMod (mOp2 dDiv (mBI dInt [(mOp2 dIxX (mVar 1) (mOp2 dAdd (mC (.int 36)) (mVar 10)))]) (mOp2 dAdd (mVar 15) (mC (.int 1)))) (mC (.int 4)))))) ρ1 = .nx ρ2 := by
    refine set_ev (word_ev (fun ρ' n e => ?_) fun n => ⟨_, rfl⟩)
    have e : ok (mkK rows h w sc A tu s8 s9 (.fz (.int (k : Int))) (.fz (pt x.1)) (.fz (pt x.2)) s13 |>.set 15 (.fz (.int (n : Int)))) = ok ρ' := e
    injection e with e
    subst e
    exact ⟨dr_ev (k := 36 + k) (by omega) rfl (i_add rfl rfl) (by omega), rfl⟩
  have hd : ∀ c ∈ l, c ∈ dirs := fun c hc => by
    obtain ⟨n, _, rfl⟩ := List.mem_map.mp hc
    exact wch_dir _ n
  have hdir : l.all isDir = true := List.all_eq_true.mpr fun c hc => dirs_dir c (hd c hc)
  have ll : l.length ≤ 1000 := by show ((List.range 20).map _).length ≤ _; rw [List.length_map, List.length_range]; omega
  obtain ⟨a1, a2, _⟩ := (mem_prs (asc_cells rows h w)).mp m1
  have r1 := report_ok R (mem_cells.mp a1) ll hdir
  have r2 := report_ok R (mem_cells.mp a2) ll hdir
  rw [← told_same l m1 m2 hd] at r2
  refine ⟨_, _, _, seq_nx2 e1 (seq_nx2 e2 (if_nx (t_ev (op2_ev (call_ev (args_ev rfl (args_ev rfl (args_ev rfl args0))) r1) (call_ev (args_ev rfl (args_ev rfl (args_ev rfl args0))) r2) ?_))))⟩
  rw [dNe_tx]
  simp
end
end K73

namespace K73
open PySem L2 PP PC
open PP.Res (ok exc bad)
def InvT (sc A : D) (ρ : Sls) : Prop := ∃ s2 s3 s4 s5 s6 s7 s8 s9 s10 s11 s12 s13, ρ = [.fz sc, .fz A, s2, s3, s4, s5, s6, s7, s8, s9, s10, s11, s12, s13, .no, .no]
noncomputable abbrev turnB : Sls → Fl := (sSeq (sSet 3 (mCall F__law_rows [(mSl dSl (mVar 1) (mPart (mOp2 dAdd (mC (.int 2)) (mOp2 dMulY (mC (.int 8)) (mVar 2)))) (mPart (mOp2 dAdd (mC (.int 14)) (mOp2 dMulY (mC (.int 8)) (mVar 2))))), (mOp2 dAdd (mC (.int 1)) (mOp2 dMod (mBI dInt [(mOp2 dIxX (mVar 1) (mVar 2))]) (mC (.int 3)))), (mOp2 dAdd (mC (.int 1)) (mOp2 dMod (mOp2 dDiv (mBI dInt [(mOp2 dIxX (mVar 1) (mVar 2))]) (mC (.int 5))) (mC (.int 6))))]))
    (sSeq (sIf (mT (mOp2 dEq (mOp2 dMod (mBI dInt [(mOp2 dIxX (mVar 1) (mOp2 dAdd (mC (.int 20)) (mVar 2)))]) (mC (.int 2))) (mC (.int 0)))) (sSet 3 (mOp2 dAdd (mOp2 dAdd (mVar 3) (mTup [(mOp2 dMulY (mC (.str "#")) (mBI dLenX [(mOp2 dIxX (mVar 3) (mC (.int 0)))]))])) (mVar 3))) sNx)
    (sSeq (sPar 4 5 (mMakeE F_Maze [(mVar 3)]) (mCall F__law_cells [(mVar 3)]))
    (sSeq (sSet 6 (mCall F__law_told [(mVar 3), (mVar 5)]))
    (sSeq (sSet 7 (mBI dTuple [(mLc (mIt (mCall F__law_pairs [(mVar 5)])) [14] (tgName 14) (mT (mOp2 dNotInX (mVar 14) (mVar 6))) (mVar 14))]))
    (sSeq (sFor (mIt (mCall F__law_bent [(mSl dSl (mVar 1) (mPart (mOp2 dAdd (mC (.int 22)) (mOp2 dMulY (mC (.int 4)) (mVar 2)))) mNoPart), (mVar 5), (mVar 7)])) (tgName 8) valB)
    (sFor (mRng rng1 [(mBI dMinX [(mC (.int 6)), (mBI dLenX [(mVar 7)])])]) (tgName 10) lookB)))))))
theorem minX_i (a b : Int) : dMinX [.int a, .int b] = some (.int (if b < a then b else a)) := rfl
theorem turn_ok {ds : List Int} (hl : ds.length = 50) (hd : Drawn ds) (sc : D) (tr : Nat) (ht : tr < 2) (ρ : Sls) (hi : InvT sc (.lst (ds.map .int)) ρ) : ∃ ρ', thenF (tgName 2 (.int (tr : Int)) ρ).quiet ρ turnB = .nx ρ' ∧ InvT sc (.lst (ds.map .int)) ρ' := by
  obtain ⟨s2, s3, s4, s5, s6, s7, s8, s9, s10, s11, s12, s13, rfl⟩ := hi
  let A : D := .lst (ds.map .int)
  let d := ds.getD tr 0
  let ds' := (ds.drop (2 + 8 * tr)).take 12
  have hl' : ds'.length = 12 := by show ((ds.drop (2 + 8 * tr)).take 12).length = 12; rw [List.length_take, List.length_drop]; omega
  have hd' : Drawn ds' := fun x hx => hd x (List.mem_of_mem_drop (List.mem_of_mem_take hx))
  have q0 := Int.emod_nonneg d (show (3 : Int) ≠ 0 by decide)
  have q1 := Int.emod_lt_of_pos d (show (0 : Int) < 3 by decide)
  have q2 := Int.emod_nonneg (d / 5) (show (6 : Int) ≠ 0 by decide)
  have q3 := Int.emod_lt_of_pos (d / 5) (show (0 : Int) < 6 by decide)
  obtain ⟨rows, er, R, l0, r0, h00⟩ := PC.rows_ok ds' (1 + (d % 3).toNat) (1 + (d / 5 % 6).toNat) hd' (by omega) (by omega) (by omega) (by omega) (by omega)
  have er' : F__law_rows [.lst (ds'.map .int), .int (1 + d % 3), .int (1 + d / 5 % 6)] = ok (rowsD rows) := by
    have a1 : ((1 + (d % 3).toNat : Nat) : Int) = 1 + d % 3 := by omega
    have a2 : ((1 + (d / 5 % 6).toNat : Nat) : Int) = 1 + d / 5 % 6 := by omega
    rw [a1, a2] at er
    exact er
  have esl : dSl A (some (2 + 8 * (tr : Int))) (some (14 + 8 * (tr : Int))) = some (.lst (ds'.map .int)) := by
    show some (D.lst (cutD (ds.map .int) _ _)) = _
    rw [cutD_both (by omega) (by omega), ← List.map_drop, ← List.map_take]
    rw [show (2 + 8 * (tr : Int)).toNat = 2 + 8 * tr by omega, show (14 + 8 * (tr : Int)).toNat - (2 + 8 * tr) = 12 by omega]
  have h3 : 1 + (d % 3).toNat ≤ 3 := by omega
  have w6 : 1 + (d / 5 % 6).toNat ≤ 6 := by omega
  generalize 1 + (d % 3).toNat = h at R h3
  generalize 1 + (d / 5 % 6).toNat = w at R w6
  have e1 : ∀ ρ : Sls, mVar 1 ρ = ok A → mVar 2 ρ = ok (.int (tr : Int)) → mBI dInt [mOp2 dIxX (mVar 1) (mVar 2)] ρ = ok (.int d) := fun ρ a b => dr_ev (k := tr) (by omega) a b rfl
  let ρ0 : Sls := [.fz sc, .fz A, .fz (.int (tr : Int)), s3, s4, s5, s6, s7, s8, s9, s10, s11, s12, s13, .no, .no]
  let tu : D := .int (tr : Int)
  let at3 : List (List Nat) → Sls := fun rs => [.fz sc, .fz A, .fz tu, .fz (rowsD rs), s4, s5, s6, s7, s8, s9, s10, s11, s12, s13, .no, .no]
  have st1 : sSet 3 (mCall F__law_rows [(mSl dSl (mVar 1) (mPart (mOp2 dAdd (mC (.int 2)) (mOp2 dMulY (mC (.int 8)) (mVar 2)))) (mPart (mOp2 dAdd (mC (.int 14)) (mOp2 dMulY (mC (.int 8)) (mVar 2))))), (mOp2 dAdd (mC (.int 1)) (mOp2 dMod (mBI dInt [(mOp2 dIxX (mVar 1) (mVar 2))]) (mC (.int 3)))), (mOp2 dAdd (mC (.int 1)) (mOp2 dMod (mOp2 dDiv (mBI dInt [(mOp2 dIxX (mVar 1) (mVar 2))]) (mC (.int 5))) (mC (.int 6))))]) ρ0 = .nx (at3 rows) :=
    set_ev (call_ev (args_ev (sl_both (l := 2 + 8 * (tr : Int)) (k := 14 + 8 * (tr : Int)) (u := A) rfl (i_add rfl (i_mulLY rfl rfl)) (i_add rfl (i_mulLY rfl rfl)) esl) (args_ev (i_add rfl (i_mod (e1 ρ0 rfl rfl) rfl)) (args_ev (i_add rfl (i_mod (i_div (e1 ρ0 rfl rfl) rfl) rfl)) args0))) er')
  -- the second half
  obtain ⟨rs, H, R2, hH, hcell, st2⟩ : ∃ (rs : List (List Nat)) (H : Nat), OkRows rs H w ∧ H ≤ 7 ∧ cellsOf rs H w ≠ [] ∧ (sIf (mT (mOp2 dEq (mOp2 dMod (mBI dInt [(mOp2 dIxX (mVar 1) (mOp2 dAdd (mC (.int 20)) (mVar 2)))]) (mC (.int 2))) (mC (.int 0)))) (sSet 3 (mOp2 dAdd (mOp2 dAdd (mVar 3) (mTup [(mOp2 dMulY (mC (.str "#")) (mBI dLenX [(mOp2 dIxX (mVar 3) (mC (.int 0)))]))])) (mVar 3))) sNx) (at3 rows) = .nx (at3 rs) := by
    have cellz : ∀ (rs : List (List Nat)) (H : Nat), OkRows rs H w → (∃ l r, rs = (46 :: l) :: r) → cellsOf rs H w ≠ [] := fun rs H R2 ⟨l, r, e⟩ z => by
      have o00 : opn rs H w z0 = true := by
        unfold opn
        have c1 : inB H w z0 = true := inB_iff.mpr ⟨⟨by decide, by have := R2.h1; show (0 : Int) < H; omega⟩, by decide, by have := R2.w1; show (0 : Int) < w; omega⟩
        rw [c1, e]; rfl
      have := mem_cells.mpr o00
      rw [z] at this; simp at this
    have c : mT (mOp2 dEq (mOp2 dMod (mBI dInt [(mOp2 dIxX (mVar 1) (mOp2 dAdd (mC (.int 20)) (mVar 2)))]) (mC (.int 2))) (mC (.int 0))) (at3 rows) = ok (decide (ds.getD (20 + tr) 0 % 2 = 0)) :=
      t_ev (op2_ev (i_mod (dr_ev (k := 20 + tr) (by omega) rfl (i_add rfl rfl) (by omega)) rfl) rfl (dEq_i _ _))
    by_cases q : ds.getD (20 + tr) 0 % 2 = 0
    · rw [decide_eq_true q] at c
      refine ⟨dbl rows w, h + 1 + h, dbl_ok R (by omega), by omega, cellz _ _ (dbl_ok R (by omega)) ⟨l0, r0 ++ List.replicate w 35 :: rows, by unfold dbl; rw [h00]; rfl⟩, (if_t c).trans (set_ev (dbl_ev R rfl))⟩
    · rw [decide_eq_false q] at c
      exact ⟨rows, h, R, by omega, cellz _ _ R ⟨l0, r0, h00⟩, if_nx c⟩
  have cl : (cellsOf rs H w).length ≤ 42 := Nat.le_trans (cells_len rs H w) (Nat.le_trans (Nat.mul_le_mul hH w6) (by decide))
  have c0 : 0 < (cellsOf rs H w).length := List.length_pos_iff.mpr hcell
  have st3 : sPar 4 5 (mMakeE F_Maze [(mVar 3)]) (mCall F__law_cells [(mVar 3)]) (at3 rs) = .nx [.fz sc, .fz A, .fz tu, .fz (rowsD rs), .fz (mz rs H w), .fz (cD rs H w), s6, s7, s8, s9, s10, s11, s12, s13, .no, .no] :=
    par_ev (makeE_ev (args_ev rfl args0) (maze_ok R2)) (call_ev (args_ev rfl args0) (cells_ok R2))
  have st4 : sSet 6 (mCall F__law_told [(mVar 3), (mVar 5)]) [.fz sc, .fz A, .fz tu, .fz (rowsD rs), .fz (mz rs H w), .fz (cD rs H w), s6, s7, s8, s9, s10, s11, s12, s13, .no, .no] = .nx [.fz sc, .fz A, .fz tu, .fz (rowsD rs), .fz (mz rs H w), .fz (cD rs H w), .fz (kd (toldOf rs H w)), s7, s8, s9, s10, s11, s12, s13, .no, .no] :=
    set_ev (call_ev (args_ev rfl (args_ev rfl args0)) (law_told_ok R2 (by omega)))
  have st5 : sSet 7 (mBI dTuple [(mLc (mIt (mCall F__law_pairs [(mVar 5)])) [14] (tgName 14) (mT (mOp2 dNotInX (mVar 14) (mVar 6))) (mVar 14))]) [.fz sc, .fz A, .fz tu, .fz (rowsD rs), .fz (mz rs H w), .fz (cD rs H w), .fz (kd (toldOf rs H w)), s7, s8, s9, s10, s11, s12, s13, .no, .no] = .nx (mkK rs H w sc A tu s8 s9 s10 s11 s12 s13) :=
    set_ev (bi1 (lc_ev (as := prsOf (cellsOf rs H w)) (emb := pp) (p := fun x => !decide (x ∈ keys (toldOf rs H w))) (g := pp) (it_ev (call_ev (args_ev rfl args0) (pairs_ok _ (by omega))) rfl)
      fun x hx => ⟨[.fz sc, .fz A, .fz tu, .fz (rowsD rs), .fz (mz rs H w), .fz (cD rs H w), .fz (kd (toldOf rs H w)), s7, s8, s9, s10, s11, s12, s13, .fz (pp x), .no], rfl, t_ev (op2_ev rfl rfl (kd_not _ x)), fun _ => rfl⟩) rfl)
  refine ex_seq (ρ1 := at3 rows) st1 (ex_seq st2 (ex_seq st3 (ex_seq st4 (ex_seq st5 ?_))))
  -- the values
  let ds2 := ds.drop (22 + 4 * tr)
  have l2 : 3 ≤ ds2.length := by show 3 ≤ (ds.drop (22 + 4 * tr)).length; rw [List.length_drop]; omega
  obtain ⟨vs, ev, ov⟩ := bent_ok (ds := ds2) (xs := alk rs H w) c0 cl l2 (alk_len cl)
  have eit : mIt (mCall F__law_bent [(mSl dSl (mVar 1) (mPart (mOp2 dAdd (mC (.int 22)) (mOp2 dMulY (mC (.int 4)) (mVar 2)))) mNoPart), (mVar 5), (mVar 7)]) (mkK rs H w sc A tu s8 s9 s10 s11 s12 s13) = ok vs := by
    refine it_ev (u := .lst vs) (call_ev (args_ev (sl_from (k := 22 + 4 * (tr : Int)) (u := A) rfl (i_add rfl (i_mulLY rfl rfl)) ?_) (args_ev rfl (args_ev rfl args0))) ev) rfl
    show some (D.lst (cutD (ds.map .int) _ _)) = _
    rw [cutD_from (by omega), ← List.map_drop, show (22 + 4 * (tr : Int)).toNat = 22 + 4 * tr by omega]
  obtain ⟨ρ1, ek, hk⟩ := forL_all (step := fun x ρ => thenF (tgName 8 x ρ).quiet ρ valB) (R := InvK rs H w sc A tu) (xs := vs) (ρ := mkK rs H w sc A tu s8 s9 s10 s11 s12 s13) (fun x hx ρ hr => by
    obtain ⟨s8, s9, s10, s11, s12, s13, rfl⟩ := hr
    exact ⟨_, .inl (val_ok R2 sc A tu (ov x hx) s9 s10 s11 s12 s13), _, _, _, _, _, _, rfl⟩) ⟨_, _, _, _, _, _, rfl⟩
  refine ex_seq (ρ1 := ρ1) ((for_ev eit).trans ek) ?_
  obtain ⟨t8, t9, t10, t11, t12, t13, rfl⟩ := hk
  -- the looks
  have em : mBI dMinX [(mC (.int 6)), (mBI dLenX [(mVar 7)])] (mkK rs H w sc A tu t8 t9 t10 t11 t12 t13) = ok (.int ((min 6 (alk rs H w).length : Nat) : Int)) := by
    have ln : mBI dLenX [(mVar 7)] (mkK rs H w sc A tu t8 t9 t10 t11 t12 t13) = ok (.int ((alk rs H w).length : Int)) := by
      have := PC.i_lenT (l := (alk rs H w).map pp) (f := mVar 7) (ρ := mkK rs H w sc A tu t8 t9 t10 t11 t12 t13) rfl
      rwa [List.length_map] at this
    refine (bi_ev (args_ev rfl (args_ev ln args0)) (minX_i _ _)).trans ?_
    congr 2
    split <;> omega
  obtain ⟨ρ2, el, hk2⟩ := forL_all (step := fun x ρ => thenF (tgName 10 x ρ).quiet ρ lookB) (R := InvK rs H w sc A tu) (xs := (List.range (min 6 (alk rs H w).length)).map fun k : Nat => D.int (k : Int)) (ρ := mkK rs H w sc A tu t8 t9 t10 t11 t12 t13) (fun x hx ρ hr => by
    obtain ⟨k, hk, rfl⟩ := List.mem_map.mp hx
    have hk := List.mem_range.mp hk
    obtain ⟨s8, s9, s10, s11, s12, s13, rfl⟩ := hr
    obtain ⟨_, _, _, e⟩ := look_ok R2 hl sc tu (k := k) (by omega) (by omega) s8 s9 s11 s12 s13
    exact ⟨_, .inl e, _, _, _, _, _, _, rfl⟩) ⟨_, _, _, _, _, _, rfl⟩
  obtain ⟨u8, u9, u10, u11, u12, u13, rfl⟩ := hk2
  exact ⟨_, (for_ev (rng_int em (Int.toNat_natCast _) (by omega) (by omega))).trans el, _, _, _, _, _, _, _, _, _, _, _, _, rfl⟩
theorem law_true (ns : List Int) (hns : ns.length ≤ 63) : F_law [.kl (ns.map .int)] = ok (.bl true) := by
  obtain ⟨ds, ed, dl, dd⟩ := PP.W.draws_ok ns 50 (by decide)
  have ed' : F__law_draws [.kl (ns.map .int), .int 50] = ok (.lst (ds.map .int)) := ed
  refine runF_rt (seq_nx2 (ρ' := [.fz (.kl (ns.map .int)), .fz (.lst (ds.map .int)), .no, .no, .no, .no, .no, .no, .no, .no, .no, .no, .no, .no, .no, .no]) (set_ev (call_ev (args_ev rfl (args_ev rfl args0)) ed')) ?_)
  obtain ⟨ρ', e, r⟩ := forL_all (step := fun x ρ => thenF (tgName 2 x ρ).quiet ρ turnB) (R := InvT (.kl (ns.map .int)) (.lst (ds.map .int))) (xs := (List.range 2).map fun k : Nat => D.int (k : Int)) (ρ := [.fz (.kl (ns.map .int)), .fz (.lst (ds.map .int)), .no, .no, .no, .no, .no, .no, .no, .no, .no, .no, .no, .no, .no, .no]) (fun x hx ρ hr => by
    obtain ⟨k, hk, rfl⟩ := List.mem_map.mp hx
    obtain ⟨ρ', e, r⟩ := turn_ok dl dd (.kl (ns.map .int)) k (List.mem_range.mp hk) ρ hr
    exact ⟨ρ', .inl e, r⟩) ⟨_, _, _, _, _, _, _, _, _, _, _, _, rfl⟩
  exact seq_nx2 ((for_ev (rng_int rfl (by decide) (by decide) (by decide))).trans e) rfl
end K73

namespace K73
open PySem PySem.Spec PyProof.Rows L2 PP
abbrev hk : PySem.W.Hook := He.hookX 5 faL fnL tsL [] exB
end K73
open PySem PySem.W PySem.Calls PyProof.Rows in
theorem PySem.Challenge.cw_mazemore_k73_alike_pairs_holds : PySem.Challenge.rw_mazemore_k73_alike_pairs.Holds := by
  w_on; o_law
  o_head K73.hk
  case hw => w_witness2
  case hc =>
    refine PP.walk_ofX (l := PySem.Challenge.rw_mazemore_k73_alike_pairs) (n := 63) (k := 7) (x := "script") (qual := "law") (st := K73.top 39) (Fl := K73.F_law) rfl (by decide) (by kernel_rfl) ⟨rfl, by decide, by decide⟩ ?F K73.law_true
    intro w mg fa h Y G hmg0
    obtain ⟨K, KX, c⟩ := Y
    have hmg : mg ("law" : PySem.Str) = some (.ref fa) := hmg0
    have T := K73.factsOf KX G c
    have e := hmg.symm.trans T.g_law
    cases e
    exact ⟨K, KX, T.d_law, fun base h1 h2 fd hfd => PP.FnP.at_ (K73.ok_law (P := (PySem.Challenge.rw_mazemore_k73_alike_pairs).prog) (base := base) T) hfd⟩

