import PyProof.Rows.All
import Wide.All
import OpenK.AllK
import Wide.FinOn
import KE.KStateDown
import Lean
import HandS.ForMost
import HandS.TupAny
import HandS.Flow
import HandS.IsInst
import HandS.Deep
import HandS.HeadEnd
import HandS.HeadHook1
import HandS.HeadHook2
import HandS.Style
import HandS.Wide
import HandS.Defaults
import HandS.IterVal
import HandS.Dict
import PySem.Challenge.RW_backlook_k62_programs_that_are_undone
import HandS.Head0
import HandS.Head1
import HandS.Head2
set_option Elab.async false
set_option linter.all false
set_option maxRecDepth 100000
/-! PL: a pure layer over the hand layer: values as data, owned lists as trees, functions as pure functions of data. -/
namespace PL
open PySem PySem.Spec PyProof.Rows L2
/-- a value as data; lists here never change any more -/
inductive D where
  | non | bl (b : Bool) | int (i : Int) | str (s : Str)
  | tup (xs : List D) | lst (xs : List D)
  /-- a list from outside (the script) -/
  | fl (xs : List D)
  /-- a thing that changes, by its number in the store -/
  | obj (n : Nat)
  /-- a def of the top, by its name -/
  | fn (x : Str)
/-- a tree of things that one alone holds, over data -/
inductive T where
  | hole | fz (d : D) | lst (ts : List T) | dct (ks : List Key) (ts : List T)
mutual
def T.view : T → D
  | .hole => .non
  | .fz d => d
  | .lst ts => .lst (T.views ts)
  | .dct _ _ => .non
def T.views : List T → List D
  | [] => []
  | t :: ts => t.view :: T.views ts
end
theorem T.views_map : ∀ ts : List T, T.views ts = ts.map T.view
  | [] => rfl
  | t :: ts => by rw [T.views, T.views_map ts]; rfl
mutual
/-- may it be frozen: no dict within -/
def T.able : T → Bool
  | .hole => false
  | .fz _ => true
  | .lst ts => T.ables ts
  | .dct _ _ => false
def T.ables : List T → Bool
  | [] => true
  | t :: ts => t.able && T.ables ts
end
/-- what the logic knows: where the things of the store lie, what is frozen -/
structure Lg where
  rho : List Addr
  Z : Addr → Prop
def Lg.le (w w' : Lg) : Prop := w.rho <+: w'.rho ∧ ∀ a, w.Z a → w'.Z a
theorem Lg.le_refl (w : Lg) : w.le w := ⟨List.prefix_refl _, fun _ h => h⟩
theorem Lg.le_trans {a b c : Lg} (h : a.le b) (k : b.le c) : a.le c := ⟨h.1.trans k.1, fun x z => k.2 x (h.2 x z)⟩
theorem Lg.le_get {w w' : Lg} (h : w.le w') {n : Nat} {a : Addr} (e : w.rho[n]? = some a) : w'.rho[n]? = some a := by
  obtain ⟨t, ht⟩ := h.1
  rw [← ht, List.getElem?_append_left (List.getElem?_eq_some_iff.mp e).1]
  exact e
/-- a tuple, a frozen list, a known thing stay -/
structure Mono (w : Lg) (H H' : Hp) : Prop where
  tup : ∀ a xs, H a = some (.tup xs) → H' a = some (.tup xs)
  frz : ∀ a o u, H a = some (.frz o u) → H' a = some (.frz o u)
  fro : ∀ a, w.Z a → H' a = H a
theorem Mono.refl (w : Lg) (H : Hp) : Mono w H H := ⟨fun _ _ h => h, fun _ _ _ h => h, fun _ _ => rfl⟩
theorem Mono.trans {w w' : Lg} {A B C : Hp} (h : Mono w A B) (k : Mono w' B C) (l : w.le w') : Mono w A C :=
  ⟨fun a xs e => k.tup a xs (h.tup a xs e), fun a o u e => k.frz a o u (h.frz a o u e), fun a z => (k.fro a (l.2 a z)).trans (h.fro a z)⟩
theorem Mono.new {w : Lg} {H : Hp} {p : Addr} {o : HO} (n : H p = none) (z : ¬ w.Z p) : Mono w H (upd H p o) :=
  ⟨fun a xs e => by rw [upd_ne (ne_of_none e n)]; exact e, fun a o u e => by rw [upd_ne (ne_of_none e n)]; exact e, fun a h => upd_ne (fun e => z (e ▸ h))⟩
/-- a list that is read from outside -/
def Out (K : PySem.W.Frag) (H : Hp) (a : Addr) (xs : List V) : Prop :=
  (∃ o, H a = some (.frz o (.lst xs))) ∨
    ∃ (o : Obj) (its : Array Value) (n : Nat), K.lookup a = some o ∧ o.cls = .type "list" ∧ o.dict = none ∧ o.data = .seq its n ∧ its.size ≤ sizeLine ∧ Vals xs its.toList
theorem Out.sq {K : PySem.W.Frag} {H : Hp} {a : Addr} {xs : List V} (h : Out K H a xs) : SqL K H a xs := by
  rcases h with ⟨o, h⟩ | h
  · exact .inl (.inr ⟨o, h⟩)
  · exact .inr h
theorem Out.mono {K : PySem.W.Frag} {w : Lg} {H H' : Hp} {a : Addr} {xs : List V} (h : Out K H a xs) (m : Mono w H H') : Out K H' a xs := by
  rcases h with ⟨o, h⟩ | h
  · exact .inl ⟨o, m.frz _ _ _ h⟩
  · exact .inr h
theorem sqT_mono {K : PySem.W.Frag} {w : Lg} {H H' : Hp} {a : Addr} {xs : List V} (h : SqT K H a xs) (m : Mono w H H') : SqT K H' a xs := by
  rcases h with (h | ⟨o, h⟩) | h
  · exact .inl (.inl (m.tup _ _ h))
  · exact .inl (.inr ⟨o, m.frz _ _ _ h⟩)
  · exact .inr h
mutual
/-- v stands for d; b: its lists are frozen -/
def Rep (K : PySem.W.Frag) (w : Lg) (H : Hp) (b : Bool) : V → D → Prop
  | v, .non => v = .non
  | v, .bl x => v = .bl x
  | v, .int i => v = .int i
  | v, .str s => v = .str s ∧ s.length ≤ sizeLine
  | v, .tup ds => ∃ a vs, v = .ref a ∧ SqT K H a vs ∧ Reps K w H b vs ds
  | v, .lst ds => ∃ a vs, v = .ref a ∧ H a = some (.lst vs) ∧ (b = true → w.Z a) ∧ Reps K w H b vs ds
  | v, .fl ds => ∃ a vs, v = .ref a ∧ Out K H a vs ∧ Reps K w H b vs ds
  | v, .obj n => ∃ a, v = .ref a ∧ w.rho[n]? = some a
  | v, .fn x => v = .ref (He.ga K x)
def Reps (K : PySem.W.Frag) (w : Lg) (H : Hp) (b : Bool) : List V → List D → Prop
  | [], [] => True
  | v :: vs, d :: ds => Rep K w H b v d ∧ Reps K w H b vs ds
  | [], _ :: _ => False
  | _ :: _, [] => False
end
section
variable {K : PySem.W.Frag} {w w' : Lg} {H H' : Hp} {b : Bool}
theorem Reps.len : ∀ {vs : List V} {ds : List D}, Reps K w H b vs ds → vs.length = ds.length
  | [], [], _ => rfl
  | _ :: _, _ :: _, h => congrArg (· + 1) (Reps.len h.2)
  | [], _ :: _, h => h.elim
  | _ :: _, [], h => h.elim
mutual
theorem Rep.mono (m : Mono w H H') (l : w.le w') : ∀ {v : V} {d : D}, Rep K w H true v d → Rep K w' H' true v d
  | _, .non, h => h
  | _, .bl _, h => h
  | _, .int _, h => h
  | _, .str _, h => h
  | _, .tup ds, ⟨a, vs, e, q, r⟩ => ⟨a, vs, e, sqT_mono q m, Reps.mono m l r⟩
  | _, .lst ds, ⟨a, vs, e, q, z, r⟩ => ⟨a, vs, e, (m.fro a (z rfl)).trans q, fun _ => l.2 a (z rfl), Reps.mono m l r⟩
  | _, .fl ds, ⟨a, vs, e, q, r⟩ => ⟨a, vs, e, q.mono m, Reps.mono m l r⟩
  | _, .obj n, ⟨a, e, q⟩ => ⟨a, e, Lg.le_get l q⟩
  | _, .fn _, h => h
theorem Reps.mono (m : Mono w H H') (l : w.le w') : ∀ {vs : List V} {ds : List D}, Reps K w H true vs ds → Reps K w' H' true vs ds
  | [], [], _ => True.intro
  | _ :: _, _ :: _, h => ⟨Rep.mono m l h.1, Reps.mono m l h.2⟩
  | [], _ :: _, h => h.elim
  | _ :: _, [], h => h.elim
end
mutual
theorem Rep.weak : ∀ {v : V} {d : D}, Rep K w H true v d → Rep K w H b v d
  | _, .non, h => h
  | _, .bl _, h => h
  | _, .int _, h => h
  | _, .str _, h => h
  | _, .tup ds, ⟨a, vs, e, q, r⟩ => ⟨a, vs, e, q, Reps.weak r⟩
  | _, .lst ds, ⟨a, vs, e, q, z, r⟩ => ⟨a, vs, e, q, fun _ => z rfl, Reps.weak r⟩
  | _, .fl ds, ⟨a, vs, e, q, r⟩ => ⟨a, vs, e, q, Reps.weak r⟩
  | _, .obj n, h => h
  | _, .fn _, h => h
theorem Reps.weak : ∀ {vs : List V} {ds : List D}, Reps K w H true vs ds → Reps K w H b vs ds
  | [], [], _ => True.intro
  | _ :: _, _ :: _, h => ⟨Rep.weak h.1, Reps.weak h.2⟩
  | [], _ :: _, h => h.elim
  | _ :: _, [], h => h.elim
end
theorem Reps.get : ∀ {vs : List V} {ds : List D} {i : Nat} {d : D}, Reps K w H b vs ds → ds[i]? = some d → ∃ v, vs[i]? = some v ∧ Rep K w H b v d
  | _ :: _, _ :: _, 0, _, h, e => by cases e; exact ⟨_, rfl, h.1⟩
  | _ :: _, _ :: _, i + 1, _, h, e => Reps.get (i := i) h.2 e
  | [], [], _, _, _, e => by simp at e
  | [], _ :: _, _, _, h, _ => h.elim
  | _ :: _, [], _, _, h, _ => h.elim
theorem Reps.app : ∀ {vs us : List V} {ds es : List D}, Reps K w H b vs ds → Reps K w H b us es → Reps K w H b (vs ++ us) (ds ++ es)
  | [], _, [], _, _, k => k
  | _ :: _, _, _ :: _, _, h, k => ⟨h.1, Reps.app h.2 k⟩
  | [], _, _ :: _, _, h, _ => h.elim
  | _ :: _, _, [], _, h, _ => h.elim
theorem Reps.take : ∀ {vs : List V} {ds : List D} (n : Nat), Reps K w H b vs ds → Reps K w H b (vs.take n) (ds.take n)
  | _, _, 0, _ => by simp only [List.take_zero]; exact True.intro
  | [], [], _ + 1, _ => True.intro
  | _ :: _, _ :: _, n + 1, h => ⟨h.1, Reps.take n h.2⟩
  | [], _ :: _, _, h => h.elim
  | _ :: _, [], _, h => h.elim
theorem Reps.drop : ∀ {vs : List V} {ds : List D} (n : Nat), Reps K w H b vs ds → Reps K w H b (vs.drop n) (ds.drop n)
  | _, _, 0, h => h
  | [], [], _ + 1, _ => True.intro
  | _ :: _, _ :: _, n + 1, h => Reps.drop n h.2
  | [], _ :: _, _, h => h.elim
  | _ :: _, [], _, h => h.elim
end
mutual
/-- v stands for the tree t, whose own things lie at F -/
def RepT (K : PySem.W.Frag) (w : Lg) (H : Hp) : V → T → List Addr → Prop
  | _, .hole, F => F = []
  | v, .fz d, F => Rep K w H true v d ∧ F = []
  | v, .lst ts, F => ∃ a vs F', v = .ref a ∧ H a = some (.lst vs) ∧ RepTs K w H vs ts F' ∧ F = a :: F'
  | v, .dct ks ts, F => ∃ a vs F', v = .ref a ∧ (ks.length = vs.length ∧ ks.Nodup) ∧ H a = some (.dK (ks.zip vs)) ∧ RepTs K w H vs ts F' ∧ F = a :: F'
def RepTs (K : PySem.W.Frag) (w : Lg) (H : Hp) : List V → List T → List Addr → Prop
  | [], [], F => F = []
  | v :: vs, t :: ts, F => ∃ F1 F2, RepT K w H v t F1 ∧ RepTs K w H vs ts F2 ∧ F = F1 ++ F2
  | [], _ :: _, _ => False
  | _ :: _, [], _ => False
end
section
variable {K : PySem.W.Frag} {w w' : Lg} {H H' : Hp} {b : Bool}
theorem RepTs.len : ∀ {vs : List V} {ts : List T} {F : List Addr}, RepTs K w H vs ts F → vs.length = ts.length
  | [], [], _, _ => rfl
  | _ :: _, _ :: _, _, ⟨_, _, _, h, _⟩ => congrArg (· + 1) (RepTs.len h)
  | [], _ :: _, _, h => h.elim
  | _ :: _, [], _, h => h.elim
mutual
theorem RepT.step (m : Mono w H H') (l : w.le w') : ∀ {v : V} {t : T} {F : List Addr}, (∀ a ∈ F, H' a = H a) → RepT K w H v t F → RepT K w' H' v t F
  | _, .hole, _, _, h => h
  | _, .fz d, _, _, h => ⟨h.1.mono m l, h.2⟩
  | _, .lst ts, _, k, ⟨a, vs, F', e, q, r, f⟩ => ⟨a, vs, F', e, (k a (by rw [f]; exact List.mem_cons_self)).trans q, RepTs.step m l (fun x hx => k x (by rw [f]; exact List.mem_cons_of_mem _ hx)) r, f⟩
  | _, .dct ks ts, _, k, ⟨a, vs, F', e, n, q, r, f⟩ => ⟨a, vs, F', e, n, (k a (by rw [f]; exact List.mem_cons_self)).trans q, RepTs.step m l (fun x hx => k x (by rw [f]; exact List.mem_cons_of_mem _ hx)) r, f⟩
theorem RepTs.step (m : Mono w H H') (l : w.le w') : ∀ {vs : List V} {ts : List T} {F : List Addr}, (∀ a ∈ F, H' a = H a) → RepTs K w H vs ts F → RepTs K w' H' vs ts F
  | [], [], _, _, h => h
  | _ :: _, _ :: _, _, k, ⟨F1, F2, h1, h2, f⟩ => ⟨F1, F2, RepT.step m l (fun x hx => k x (by rw [f]; exact List.mem_append_left _ hx)) h1, RepTs.step m l (fun x hx => k x (by rw [f]; exact List.mem_append_right _ hx)) h2, f⟩
  | [], _ :: _, _, _, h => h.elim
  | _ :: _, [], _, _, h => h.elim
end
mutual
theorem RepT.there : ∀ {v : V} {t : T} {F : List Addr}, RepT K w H v t F → ∀ a ∈ F, ∃ o, H a = some o ∧ Mut (some o)
  | _, .hole, _, h, a, ha => by rw [h] at ha; cases ha
  | _, .fz d, _, h, a, ha => by rw [h.2] at ha; cases ha
  | _, .lst ts, _, ⟨a, vs, F', e, q, r, f⟩, x, hx => by
    rw [f] at hx
    rcases List.mem_cons.mp hx with rfl | hx
    · exact ⟨_, q, True.intro⟩
    · exact RepTs.there r x hx
  | _, .dct ks ts, _, ⟨a, vs, F', e, n, q, r, f⟩, x, hx => by
    rw [f] at hx
    rcases List.mem_cons.mp hx with rfl | hx
    · exact ⟨_, q, True.intro⟩
    · exact RepTs.there r x hx
theorem RepTs.there : ∀ {vs : List V} {ts : List T} {F : List Addr}, RepTs K w H vs ts F → ∀ a ∈ F, ∃ o, H a = some o ∧ Mut (some o)
  | [], [], _, h, a, ha => by rw [h] at ha; cases ha
  | _ :: _, _ :: _, _, ⟨F1, F2, h1, h2, f⟩, x, hx => by
    rw [f] at hx
    rcases List.mem_append.mp hx with hx | hx
    · exact RepT.there h1 x hx
    · exact RepTs.there h2 x hx
  | [], _ :: _, _, h, _, _ => h.elim
  | _ :: _, [], _, h, _, _ => h.elim
end
mutual
/-- a tree is frozen -/
theorem RepT.freeze (zF : ∀ a, w.Z a → w'.Z a) (hr : w.rho = w'.rho) : ∀ {v : V} {t : T} {F : List Addr}, (∀ a ∈ F, w'.Z a) → RepT K w H v t F → t.able = true → Rep K w' H true v t.view
  | _, .hole, _, _, _, e => by cases e
  | _, .fz d, _, _, h, _ => h.1.mono (Mono.refl _ _) ⟨by rw [hr]; exact List.prefix_refl _, zF⟩
  | _, .lst ts, _, k, ⟨a, vs, F', e, q, r, f⟩, z => ⟨a, vs, e, q, fun _ => k a (by rw [f]; exact List.mem_cons_self), RepTs.freeze zF hr (fun x hx => k x (by rw [f]; exact List.mem_cons_of_mem _ hx)) r z⟩
  | _, .dct ks ts, _, _, _, z => by cases z
theorem RepTs.freeze (zF : ∀ a, w.Z a → w'.Z a) (hr : w.rho = w'.rho) : ∀ {vs : List V} {ts : List T} {F : List Addr}, (∀ a ∈ F, w'.Z a) → RepTs K w H vs ts F → T.ables ts = true → Reps K w' H true vs (T.views ts)
  | [], [], _, _, _, _ => True.intro
  | _ :: _, _ :: _, _, k, ⟨F1, F2, h1, h2, f⟩, z => by
    have z' := (Bool.and_eq_true _ _).mp z
    exact ⟨RepT.freeze zF hr (fun x hx => k x (by rw [f]; exact List.mem_append_left _ hx)) h1 z'.1, RepTs.freeze zF hr (fun x hx => k x (by rw [f]; exact List.mem_append_right _ hx)) h2 z'.2⟩
  | [], _ :: _, _, _, h, _ => h.elim
  | _ :: _, [], _, _, h, _ => h.elim
end
mutual
/-- a tree is read -/
theorem RepT.read : ∀ {v : V} {t : T} {F : List Addr}, RepT K w H v t F → t.able = true → Rep K w H false v t.view
  | _, .hole, _, _, e => by cases e
  | _, .fz d, _, h, _ => h.1.weak
  | _, .lst ts, _, ⟨a, vs, F', e, q, r, f⟩, z => ⟨a, vs, e, q, fun h => (Bool.false_ne_true h).elim, RepTs.read r z⟩
  | _, .dct ks ts, _, _, z => by cases z
theorem RepTs.read : ∀ {vs : List V} {ts : List T} {F : List Addr}, RepTs K w H vs ts F → T.ables ts = true → Reps K w H false vs (T.views ts)
  | [], [], _, _, _ => True.intro
  | _ :: _, _ :: _, _, ⟨F1, F2, h1, h2, f⟩, z => by
    have z' := (Bool.and_eq_true _ _).mp z
    exact ⟨RepT.read h1 z'.1, RepTs.read h2 z'.2⟩
  | [], _ :: _, _, h, _ => h.elim
  | _ :: _, [], _, h, _ => h.elim
end
theorem RepTs.app : ∀ {vs us : List V} {ts rs : List T} {F G : List Addr}, RepTs K w H vs ts F → RepTs K w H us rs G → RepTs K w H (vs ++ us) (ts ++ rs) (F ++ G)
  | [], _, [], _, _, _, h, k => by rw [show (_ : List Addr) = [] from h]; exact k
  | _ :: _, _, _ :: _, _, _, _, ⟨F1, F2, h1, h2, f⟩, k => ⟨F1, F2 ++ _, h1, RepTs.app h2 k, by rw [f, List.append_assoc]⟩
  | [], _, _ :: _, _, _, _, h, _ => h.elim
  | _ :: _, _, [], _, _, _, h, _ => h.elim
theorem RepTs.split : ∀ {vs us : List V} {ts rs : List T} {F : List Addr}, vs.length = ts.length → RepTs K w H (vs ++ us) (ts ++ rs) F → ∃ F1 F2, RepTs K w H vs ts F1 ∧ RepTs K w H us rs F2 ∧ F = F1 ++ F2
  | [], _, [], _, F, _, h => ⟨[], F, rfl, h, rfl⟩
  | _ :: _, _, _ :: _, _, _, e, ⟨F1, F2, h1, h2, f⟩ => by
    obtain ⟨G1, G2, k1, k2, g⟩ := RepTs.split (Nat.succ.inj e) h2
    exact ⟨F1 ++ G1, G2, ⟨F1, G1, h1, k1, rfl⟩, k2, by rw [f, g, List.append_assoc]⟩
  | [], _, _ :: _, _, _, e, _ => by cases e
  | _ :: _, _, [], _, _, e, _ => by cases e
/-- data alone -/
theorem RepTs.ofFz : ∀ {vs : List V} {ds : List D}, Reps K w H true vs ds → RepTs K w H vs (ds.map T.fz) []
  | [], [], _ => rfl
  | _ :: _, _ :: _, h => ⟨[], [], ⟨h.1, rfl⟩, RepTs.ofFz h.2, rfl⟩
  | [], _ :: _, h => h.elim
  | _ :: _, [], h => h.elim
theorem RepTs.fz : ∀ {vs : List V} {ds : List D} {F : List Addr}, RepTs K w H vs (ds.map T.fz) F → Reps K w H true vs ds ∧ F = []
  | [], [], _, h => ⟨True.intro, h⟩
  | _ :: _, _ :: _, _, ⟨F1, F2, h1, h2, f⟩ => by
    obtain ⟨k, e⟩ := RepTs.fz h2
    exact ⟨⟨h1.1, k⟩, by rw [f, h1.2, e]; rfl⟩
  | [], _ :: _, _, h => h.elim
  | _ :: _, [], _, h => h.elim
/-- the i-th tree, the others aside -/
theorem RepTs.at : ∀ {vs : List V} {ts : List T} {F : List Addr} {i : Nat} {t : T}, RepTs K w H vs ts F → ts[i]? = some t → ∃ v F1 F2 F3, vs[i]? = some v ∧ RepT K w H v t F2 ∧ F = F1 ++ F2 ++ F3 ∧
    ∀ (w' : Lg) (H' : Hp) (v' : V) (t' : T) (F2' : List Addr), w.le w' → Mono w H H' → (∀ a ∈ F1 ++ F3, H' a = H a) → RepT K w' H' v' t' F2' → RepTs K w' H' (vs.set i v') (ts.set i t') (F1 ++ F2' ++ F3)
  | v :: vs, t0 :: ts, F, 0, t, ⟨F1, F2, h1, h2, f⟩, e => by
    cases e
    refine ⟨v, [], F1, F2, rfl, h1, by rw [f]; simp, fun w' H' v' t' F2' l m k h' => ?_⟩
    exact ⟨F2', F2, h', RepTs.step m l (fun a ha => k a (by simpa using ha)) h2, by simp⟩
  | v :: vs, t0 :: ts, F, i + 1, t, ⟨F1, F2, h1, h2, f⟩, e => by
    obtain ⟨v1, G1, G2, G3, e1, r, g, up⟩ := RepTs.at (i := i) h2 e
    refine ⟨v1, F1 ++ G1, G2, G3, e1, r, by rw [f, g]; simp, fun w' H' v' t' F2' l m k h' => ?_⟩
    refine ⟨F1, G1 ++ F2' ++ G3, RepT.step m l (fun a ha => k a (by simp [ha])) h1, up w' H' v' t' F2' l m (fun a ha => k a (by
      rcases List.mem_append.mp ha with q | q
      · simp [q]
      · simp [q])) h', by simp⟩
  | [], [], _, _, _, _, e => by simp at e
  | [], _ :: _, _, _, _, h, _ => h.elim
  | _ :: _, [], _, _, _, h, _ => h.elim
end
end PL
set_option Elab.async false
set_option linter.all false
set_option maxRecDepth 100000
set_option autoImplicit false
namespace PL
open PySem PySem.Spec PyProof.Rows L2
/-- what an expression gives: a tree of its own (or data), or what a slot holds -/
inductive RV where
  | tr (t : T) | pl (i : Nat)
abbrev RV.d (d : D) : RV := .tr (.fz d)
structure S where
  sl : List T
  ob : List T
structure Exc where
  cls : Nat
  args : List D
inductive R (α : Type) where
  | ok (a : α) (s : S) | exc (x : Exc) (s : S) | stuck
def R.bind {α β : Type} (r : R α) (f : α → S → R β) : R β := match r with
  | .ok a s => f a s
  | .exc x s => .exc x s
  | .stuck => .stuck
@[simp] theorem R.bind_ok {α β : Type} (a : α) (s : S) (f : α → S → R β) : (R.ok a s).bind f = f a s := rfl
@[simp] theorem R.bind_exc {α β : Type} (x : Exc) (s : S) (f : α → S → R β) : (R.exc x s).bind f = R.exc x s := rfl
@[simp] theorem R.bind_stuck {α β : Type} (f : α → S → R β) : (R.stuck : R α).bind f = R.stuck := rfl
abbrev G := S → R RV
abbrev GT := S → R Bool
abbrev GA := S → R (List RV)
def svs (σ : L2.St) : List V := σ.map fun o => o.getD .non
theorem svs_get {σ : L2.St} {i : Nat} {v : V} (h : σ[i]? = some (some v)) : (svs σ)[i]? = some v := by
  unfold svs; rw [List.getElem?_map, h]; rfl
theorem svs_set (σ : L2.St) (i : Nat) (v : V) : svs (σ.set i (some v)) = (svs σ).set i v := by
  unfold svs; rw [List.map_set]; rfl
theorem svs_len (σ : L2.St) : (svs σ).length = σ.length := by unfold svs; rw [List.length_map]
def RepV (K : PySem.W.Frag) (w : Lg) (H : Hp) (sv : List V) (sl : List T) (p : V × RV) (F : List Addr) : Prop := match p.2 with
  | .tr t => RepT K w H p.1 t F
  | .pl i => sv[i]? = some p.1 ∧ (∃ t, sl[i]? = some t ∧ t ≠ T.hole) ∧ F = []
def RepVs (K : PySem.W.Frag) (w : Lg) (H : Hp) (sv : List V) (sl : List T) : List (V × RV) → List Addr → Prop
  | [], F => F = []
  | p :: ps, F => ∃ F1 F2, RepV K w H sv sl p F1 ∧ RepVs K w H sv sl ps F2 ∧ F = F1 ++ F2
section
variable {K : PySem.W.Frag} {w w' : Lg} {H H' : Hp} {sv sv' : List V} {sl sl' : List T}
theorem RepVs.app : ∀ {ps qs : List (V × RV)} {F G : List Addr}, RepVs K w H sv sl ps F → RepVs K w H sv sl qs G → RepVs K w H sv sl (ps ++ qs) (F ++ G)
  | [], _, _, _, h, k => by rw [show (_ : List Addr) = [] from h]; exact k
  | _ :: _, _, _, _, ⟨F1, F2, h1, h2, f⟩, k => ⟨F1, F2 ++ _, h1, RepVs.app h2 k, by rw [f, List.append_assoc]⟩
theorem RepVs.split : ∀ {ps qs : List (V × RV)} {F : List Addr}, RepVs K w H sv sl (ps ++ qs) F → ∃ F1 F2, RepVs K w H sv sl ps F1 ∧ RepVs K w H sv sl qs F2 ∧ F = F1 ++ F2
  | [], _, F, h => ⟨[], F, rfl, h, rfl⟩
  | _ :: _, _, _, ⟨F1, F2, h1, h2, f⟩ => by
    obtain ⟨G1, G2, k1, k2, g⟩ := RepVs.split h2
    exact ⟨F1 ++ G1, G2, ⟨F1, G1, h1, k1, rfl⟩, k2, by rw [f, g, List.append_assoc]⟩
theorem RepVs.one {p : V × RV} {F : List Addr} (h : RepV K w H sv sl p F) : RepVs K w H sv sl [p] F := ⟨F, [], h, rfl, by simp⟩
theorem RepVs.the {p : V × RV} {F : List Addr} (h : RepVs K w H sv sl [p] F) : RepV K w H sv sl p F := by
  obtain ⟨F1, F2, h1, h2, f⟩ := h
  have e : F2 = [] := h2
  rw [f, e, List.append_nil]; exact h1
/-- the slots that a pending place names -/
def plOk (sv sv' : List V) (sl sl' : List T) (p : V × RV) : Prop := match p.2 with
  | .tr _ => True
  | .pl i => ∀ v, sv[i]? = some v → (∃ t, sl[i]? = some t ∧ t ≠ T.hole) → sv'[i]? = some v ∧ ∃ t, sl'[i]? = some t ∧ t ≠ T.hole
theorem RepV.step (m : Mono w H H') (l : w.le w') {p : V × RV} {F : List Addr} (hp : plOk sv sv' sl sl' p) (k : ∀ a ∈ F, H' a = H a) (h : RepV K w H sv sl p F) : RepV K w' H' sv' sl' p F := by
  obtain ⟨v, rv⟩ := p
  cases rv with
  | tr t => exact RepT.step m l k h
  | pl i =>
    obtain ⟨h1, h2, h3⟩ := h
    obtain ⟨k1, k2⟩ := hp v h1 h2
    exact ⟨k1, k2, h3⟩
theorem RepVs.step (m : Mono w H H') (l : w.le w') : ∀ {ps : List (V × RV)} {F : List Addr}, (∀ p ∈ ps, plOk sv sv' sl sl' p) → (∀ a ∈ F, H' a = H a) → RepVs K w H sv sl ps F → RepVs K w' H' sv' sl' ps F
  | [], _, _, _, h => h
  | _ :: _, _, hp, k, ⟨F1, F2, h1, h2, f⟩ => ⟨F1, F2, RepV.step m l (hp _ List.mem_cons_self) (fun a ha => k a (by rw [f]; exact List.mem_append_left _ ha)) h1,
      RepVs.step m l (fun p hq => hp p (List.mem_cons_of_mem _ hq)) (fun a ha => k a (by rw [f]; exact List.mem_append_right _ ha)) h2, f⟩
theorem RepV.there {p : V × RV} {F : List Addr} (h : RepV K w H sv sl p F) : ∀ a ∈ F, ∃ o, H a = some o ∧ Mut (some o) := by
  obtain ⟨v, rv⟩ := p
  cases rv with
  | tr t => exact RepT.there h
  | pl i => intro a ha; rw [h.2.2] at ha; cases ha
theorem RepVs.there : ∀ {ps : List (V × RV)} {F : List Addr}, RepVs K w H sv sl ps F → ∀ a ∈ F, ∃ o, H a = some o ∧ Mut (some o)
  | [], _, h, a, ha => by rw [show (_ : List Addr) = [] from h] at ha; cases ha
  | _ :: _, _, ⟨F1, F2, h1, h2, f⟩, a, ha => by
    rw [f] at ha
    rcases List.mem_append.mp ha with q | q
    · exact h1.there a q
    · exact RepVs.there h2 a q
theorem plOk.self (p : V × RV) : plOk sv sv sl sl p := by
  obtain ⟨v, rv⟩ := p
  cases rv with
  | tr t => exact True.intro
  | pl i => exact fun v h k => ⟨h, k⟩
/-- trees alone: whatever the slots -/
theorem plOk.tr (v : V) (t : T) : plOk sv sv' sl sl' (v, .tr t) := True.intro
end
/-- the entry: what a def's body (or a block) owes its caller -/
structure En where
  w0 : Lg
  He : Hp
  Pf : List Addr
structure RS (K : PySem.W.Frag) (en : En) (w : Lg) (s : S) (σ : L2.St) (H : Hp) (pend : List (V × RV)) : Prop where
  rep : ∃ F1 F2 F3, RepTs K w H (svs σ) s.sl F1 ∧ RepTs K w H (w.rho.map V.ref) s.ob F2 ∧ RepVs K w H (svs σ) s.sl pend F3 ∧ (F1 ++ F2 ++ F3).Nodup ∧
    ∀ a ∈ F1 ++ F2 ++ F3, (en.He a = none ∨ a ∈ en.Pf) ∧ ¬ w.Z a
  live : ∀ (i : Nat) (t : T), s.sl[i]? = some t → t ≠ T.hole → ∃ v : V, σ[i]? = some (some v)
  frame : ∀ (a : Addr) (o : HO), en.He a = some o → a ∈ en.Pf ∨ H a = some o
  mono : Mono en.w0 en.He H
  le : en.w0.le w
  zz : ∀ (a : Addr), w.Z a → (∃ xs, H a = some (.lst xs)) ∧ (en.w0.Z a ∨ en.He a = none ∨ a ∈ en.Pf)
def Post (K : PySem.W.Frag) (en : En) (σ : L2.St) (pend : List (V × RV)) (Q : VK) : R RV → Prop
  | .ok rv s => ∀ v H w, RS K en w s σ H (pend ++ [(v, rv)]) → Q v H
  | .exc _ _ => False
  | .stuck => False
def PostT (K : PySem.W.Frag) (en : En) (σ : L2.St) (pend : List (V × RV)) (Q : Bool → Hp → Prop) : R Bool → Prop
  | .ok b s => ∀ H w, RS K en w s σ H pend → Q b H
  | .exc _ _ => False
  | .stuck => False
def PostA (K : PySem.W.Frag) (en : En) (σ : L2.St) (pend : List (V × RV)) (Q : List V → Hp → Prop) : R (List RV) → Prop
  | .ok rvs s => ∀ vs H w, vs.length = rvs.length → RS K en w s σ H (pend ++ vs.zip rvs) → Q vs H
  | .exc _ _ => False
  | .stuck => False
def tD (K : PySem.W.Frag) (g : G) : TE := fun σ H Q => ∃ en w s pend, RS K en w s σ H pend ∧ Post K en σ pend Q (g s)
def tDt (K : PySem.W.Frag) (g : GT) : TT := fun σ H Q => ∃ en w s pend, RS K en w s σ H pend ∧ PostT K en σ pend Q (g s)
def tDa (K : PySem.W.Frag) (g : GA) : TA := fun σ H Q => ∃ en w s pend, RS K en w s σ H pend ∧ PostA K en σ pend Q (g s)
theorem PE.imp {X : Cx} {e : Expr} {t t' : TE} (h : PE X e t) (k : ∀ σ H Q, t' σ H Q → t σ H Q) : PE X e t' := ⟨fun pins s σ H Q I q => h.run pins s σ H Q I (k _ _ _ q)⟩
theorem PT.imp {X : Cx} {e : Expr} {t t' : TT} (h : PT X e t) (k : ∀ σ H Q, t' σ H Q → t σ H Q) : PT X e t' := ⟨fun pins s σ H Q I q => h.run pins s σ H Q I (k _ _ _ q)⟩
theorem PW.imp {X : Cx} {e : Expr} {t t' : TT} (h : PW X e t) (k : ∀ σ H Q, t' σ H Q → t σ H Q) : PW X e t' := ⟨fun wh pins s σ H Q I q => h.run wh pins s σ H Q I (k _ _ _ q)⟩
theorem PA.imp {X : Cx} {e : List Expr} {t t' : TA} (h : PA X e t) (k : ∀ σ H Q, t' σ H Q → t σ H Q) : PA X e t' := ⟨fun ps pins s σ H Q I q => h.run ps pins s σ H Q I (k _ _ _ q)⟩
theorem PS.imp {X : Cx} {e : Stmt} {t t' : TS} (h : PS X e t) (k : ∀ D σ H, t' D σ H → t D σ H) : PS X e t' := ⟨fun pins s σ H D I q => h.run pins s σ H D I (k _ _ _ q)⟩
theorem PSs.imp {X : Cx} {e : List Stmt} {t t' : TS} (h : PSs X e t) (k : ∀ D σ H, t' D σ H → t D σ H) : PSs X e t' := ⟨fun pins s σ H D I q => h.run pins s σ H D I (k _ _ _ q)⟩
/-- an expression first -/
theorem tD.seq {K : PySem.W.Frag} {en : En} {w : Lg} {s : S} {σ : L2.St} {H : Hp} {pend : List (V × RV)} {g : G} {Q' : VK} (r : RS K en w s σ H pend)
    (h : ∀ rv s', g s = .ok rv s' → ∀ v H' w', RS K en w' s' σ H' (pend ++ [(v, rv)]) → Q' v H') (hn : ∃ rv s', g s = R.ok rv s') : tD K g σ H Q' := by
  obtain ⟨rv, s', e⟩ := hn
  refine ⟨en, w, s, pend, r, ?_⟩
  rw [e]
  exact fun v H' w' r' => h rv s' e v H' w' r'
theorem Post.bind {K : PySem.W.Frag} {en : En} {σ : L2.St} {pend : List (V × RV)} {Q : VK} {α : Type} {r : R α} {f : α → S → R RV} (h : Post K en σ pend Q (r.bind f)) : ∃ a s, r = .ok a s ∧ Post K en σ pend Q (f a s) := by
  cases r with
  | ok a s => exact ⟨a, s, rfl, h⟩
  | exc x s => exact h.elim
  | stuck => exact h.elim
theorem PostT.bind {K : PySem.W.Frag} {en : En} {σ : L2.St} {pend : List (V × RV)} {Q : Bool → Hp → Prop} {α : Type} {r : R α} {f : α → S → R Bool} (h : PostT K en σ pend Q (r.bind f)) : ∃ a s, r = .ok a s ∧ PostT K en σ pend Q (f a s) := by
  cases r with
  | ok a s => exact ⟨a, s, rfl, h⟩
  | exc x s => exact h.elim
  | stuck => exact h.elim
theorem PostA.bind {K : PySem.W.Frag} {en : En} {σ : L2.St} {pend : List (V × RV)} {Q : List V → Hp → Prop} {α : Type} {r : R α} {f : α → S → R (List RV)} (h : PostA K en σ pend Q (r.bind f)) : ∃ a s, r = .ok a s ∧ PostA K en σ pend Q (f a s) := by
  cases r with
  | ok a s => exact ⟨a, s, rfl, h⟩
  | exc x s => exact h.elim
  | stuck => exact h.elim
/-- the first part of a reading -/
theorem tD.first {K : PySem.W.Frag} {en : En} {w : Lg} {s s1 : S} {σ : L2.St} {H : Hp} {pend : List (V × RV)} {g : G} {rv : RV} {Q' : VK} (r : RS K en w s σ H pend) (e : g s = .ok rv s1)
    (h : ∀ v H' w', RS K en w' s1 σ H' (pend ++ [(v, rv)]) → Q' v H') : tD K g σ H Q' := ⟨en, w, s, pend, r, by rw [e]; exact h⟩
theorem tDt.first {K : PySem.W.Frag} {en : En} {w : Lg} {s s1 : S} {σ : L2.St} {H : Hp} {pend : List (V × RV)} {g : GT} {b : Bool} {Q' : Bool → Hp → Prop} (r : RS K en w s σ H pend) (e : g s = .ok b s1)
    (h : ∀ H' w', RS K en w' s1 σ H' pend → Q' b H') : tDt K g σ H Q' := ⟨en, w, s, pend, r, by rw [e]; exact h⟩
theorem tDa.first {K : PySem.W.Frag} {en : En} {w : Lg} {s s1 : S} {σ : L2.St} {H : Hp} {pend : List (V × RV)} {g : GA} {rvs : List RV} {Q' : List V → Hp → Prop} (r : RS K en w s σ H pend) (e : g s = .ok rvs s1)
    (h : ∀ vs H' w', vs.length = rvs.length → RS K en w' s1 σ H' (pend ++ vs.zip rvs) → Q' vs H') : tDa K g σ H Q' := ⟨en, w, s, pend, r, by rw [e]; exact h⟩
section
variable {K : PySem.W.Frag} {en : En} {w : Lg} {s : S} {σ : L2.St} {H : Hp} {pend : List (V × RV)}
/-- the tree behind a value -/
def look (s : S) : RV → T
  | .tr t => t
  | .pl i => s.sl.getD i .hole
@[simp] theorem look_tr (s : S) (t : T) : look s (.tr t) = t := rfl
@[simp] theorem look_pl (s : S) (i : Nat) : look s (.pl i) = s.sl.getD i .hole := rfl
/-- what is read of a value -/
def rd (s : S) (rv : RV) : Option D := if (look s rv).able then some (look s rv).view else none
theorem rd_fz (s : S) (d : D) : rd s (.tr (.fz d)) = some d := rfl
/-- a pending value's tree -/
theorem RS.tree (r : RS K en w s σ H (pend)) {p : V × RV} (hp : p ∈ pend) : ∃ F, RepT K w H p.1 (look s p.2) F := by
  obtain ⟨F1, F2, F3, h1, h2, h3, nd, fr⟩ := r.rep
  have key : ∀ {ps : List (V × RV)} {F3 : List Addr}, RepVs K w H (svs σ) s.sl ps F3 → p ∈ ps → ∃ F, RepV K w H (svs σ) s.sl p F := fun {ps} => by
    induction ps with
    | nil => intro _ _ h; cases h
    | cons q qs ih =>
      intro F ⟨G1, G2, g1, g2, g⟩ hm
      rcases List.mem_cons.mp hm with e | e
      · rw [e]; exact ⟨G1, g1⟩
      · exact ih g2 e
  obtain ⟨F, hF⟩ := key h3 hp
  obtain ⟨v, rv⟩ := p
  cases rv with
  | tr t => exact ⟨F, hF⟩
  | pl i =>
    obtain ⟨e1, ⟨t, e2, hn⟩, e3⟩ := hF
    obtain ⟨v', G1, G2, G3, e4, hr, _⟩ := RepTs.at h1 e2
    rw [e1] at e4
    cases e4
    refine ⟨G2, ?_⟩
    show RepT K w H v (s.sl.getD i .hole) G2
    rw [List.getD_eq_getElem?_getD, e2]
    exact hr
theorem RS.read (r : RS K en w s σ H pend) {v : V} {rv : RV} {d : D} (hp : (v, rv) ∈ pend) (e : rd s rv = some d) : Rep K w H false v d := by
  obtain ⟨F, hF⟩ := r.tree hp
  unfold rd at e
  split at e
  · rename_i ha
    cases e
    exact hF.read ha
  · cases e
/-- data that is pending -/
theorem RS.dat (r : RS K en w s σ H pend) {v : V} {d : D} (hp : (v, RV.tr (.fz d)) ∈ pend) : Rep K w H true v d := by
  obtain ⟨F, hF⟩ := r.tree hp
  exact hF.1
/-- more has come into the heap -/
theorem RS.monoExt {H' : Hp} (r : RS K en w s σ H pend) (f : ∀ a o, H a = some o → H' a = some o) : Mono w H H' :=
  ⟨fun a xs e => f a _ e, fun a o u e => f a _ e, fun a z => by obtain ⟨⟨xs, e⟩, _⟩ := r.zz a z; rw [e]; exact f a _ e⟩
theorem RS.ext {H' : Hp} (r : RS K en w s σ H pend) (f : ∀ a o, H a = some o → H' a = some o) : RS K en w s σ H' pend := by
  have m := r.monoExt f
  obtain ⟨F1, F2, F3, h1, h2, h3, nd, fr⟩ := r.rep
  have same : ∀ {F : List Addr}, (∀ a ∈ F, ∃ o, H a = some o ∧ Mut (some o)) → ∀ a ∈ F, H' a = H a := fun k a ha => by obtain ⟨o, e, _⟩ := k a ha; rw [e]; exact f a o e
  refine ⟨⟨F1, F2, F3, h1.step m (Lg.le_refl w) (same h1.there), h2.step m (Lg.le_refl w) (same h2.there), RepVs.step m (Lg.le_refl w) (fun p _ => plOk.self p) (same h3.there) h3, nd, fr⟩, r.live, fun a o e => ?_, r.mono.trans m r.le, r.le, fun a z => ?_⟩
  · rcases r.frame a o e with q | q
    · exact .inl q
    · exact .inr (f a o q)
  · obtain ⟨⟨xs, e⟩, h⟩ := r.zz a z
    exact ⟨⟨xs, f a _ e⟩, h⟩
theorem upd_ext {H : Hp} {p : Addr} {o : HO} (n : H p = none) : ∀ a u, H a = some u → upd H p o a = some u := fun a u e => by rw [upd_ne (ne_of_none e n)]; exact e
/-- a value without things of its own is pending -/
theorem RS.push {p : V × RV} (r : RS K en w s σ H pend) (h : RepV K w H (svs σ) s.sl p []) : RS K en w s σ H (pend ++ [p]) := by
  obtain ⟨F1, F2, F3, h1, h2, h3, nd, fr⟩ := r.rep
  exact ⟨⟨F1, F2, F3 ++ [], h1, h2, h3.app (RepVs.one h), by simpa using nd, by simpa using fr⟩, r.live, r.frame, r.mono, r.le, r.zz⟩
theorem RS.pushD {v : V} {d : D} (r : RS K en w s σ H pend) (h : Rep K w H true v d) : RS K en w s σ H (pend ++ [(v, .tr (.fz d))]) := r.push (p := (v, .tr (.fz d))) ⟨h, rfl⟩
/-- pending values are dropped -/
theorem RS.drop {ps qs : List (V × RV)} (r : RS K en w s σ H (ps ++ qs)) : RS K en w s σ H ps := by
  obtain ⟨F1, F2, F3, h1, h2, h3, nd, fr⟩ := r.rep
  obtain ⟨G1, G2, g1, g2, rfl⟩ := h3.split
  rw [← List.append_assoc] at nd fr
  exact ⟨⟨F1, F2, G1, h1, h2, g1, (List.nodup_append.mp nd).1, fun a ha => fr a (List.mem_append_left _ ha)⟩, r.live, r.frame, r.mono, r.le, r.zz⟩
theorem RepVs.trs {sv : List V} {sl : List T} : ∀ {ps : List (V × T)} {F : List Addr}, RepVs K w H sv sl (ps.map fun q => (q.1, RV.tr q.2)) F → RepTs K w H (ps.map (·.1)) (ps.map (·.2)) F
  | [], _, h => h
  | _ :: _, _, ⟨F1, F2, h1, h2, f⟩ => ⟨F1, F2, h1, RepVs.trs h2, f⟩
theorem RS.nz (r : RS K en w s σ H pend) {p : Addr} (n : H p = none) : ¬ w.Z p := fun z => by
  obtain ⟨⟨xs, e⟩, _⟩ := r.zz p z
  rw [n] at e; cases e
theorem RS.newOk (r : RS K en w s σ H pend) {p : Addr} (n : H p = none) : en.He p = none ∨ p ∈ en.Pf := by
  cases h : en.He p with
  | none => exact .inl rfl
  | some o =>
    rcases r.frame p o h with q | q
    · exact .inr q
    · rw [n] at q; cases q
/-- a new thing at p over the last pending values -/
theorem RS.newOver {ps : List (V × T)} {p : Addr} {o : HO} {t : T} (r : RS K en w s σ H (pend ++ ps.map fun q => (q.1, RV.tr q.2))) (n : H p = none)
    (h : ∀ F, RepTs K w (upd H p o) (ps.map (·.1)) (ps.map (·.2)) F → RepT K w (upd H p o) (.ref p) t (p :: F)) : RS K en w s σ (upd H p o) (pend ++ [(.ref p, .tr t)]) := by
  have nz := r.nz n
  have nk := r.newOk n
  have r' := r.ext (upd_ext (o := o) n)
  obtain ⟨F1, F2, F3, h1, h2, h3, nd, fr⟩ := r.rep
  have np : p ∉ F1 ++ F2 ++ F3 := fun hp => by
    have key : ∃ u, H p = some u := by
      rcases List.mem_append.mp hp with hp | hp
      · rcases List.mem_append.mp hp with hp | hp
        · obtain ⟨u, e, _⟩ := h1.there p hp; exact ⟨u, e⟩
        · obtain ⟨u, e, _⟩ := h2.there p hp; exact ⟨u, e⟩
      · obtain ⟨u, e, _⟩ := h3.there p hp; exact ⟨u, e⟩
    obtain ⟨u, e⟩ := key
    rw [n] at e; cases e
  have m := r.monoExt (upd_ext (o := o) n)
  have same : ∀ {F : List Addr}, (∀ a ∈ F, ∃ u, H a = some u ∧ Mut (some u)) → ∀ a ∈ F, upd H p o a = H a := fun k a ha => by obtain ⟨u, e, _⟩ := k a ha; rw [e]; exact upd_ext n a u e
  obtain ⟨G1, G2, g1, g2, rfl⟩ := h3.split
  have g2' := RepVs.trs (RepVs.step (sv' := svs σ) (sl' := s.sl) m (Lg.le_refl w) (fun p _ => plOk.self p) (same g2.there) g2)
  have g1' := RepVs.step (sv' := svs σ) (sl' := s.sl) m (Lg.le_refl w) (fun p _ => plOk.self p) (same g1.there) g1
  refine ⟨⟨F1, F2, G1 ++ (p :: G2), h1.step m (Lg.le_refl w) (same h1.there), h2.step m (Lg.le_refl w) (same h2.there), g1'.app (RepVs.one (h G2 g2')), ?_, fun a ha => ?_⟩, r'.live, r'.frame, r'.mono, r'.le, r'.zz⟩
  · have e : (F1 ++ F2 ++ (G1 ++ p :: G2)).Perm (p :: (F1 ++ F2 ++ (G1 ++ G2))) := by
      rw [← List.append_assoc, ← List.append_assoc (F1 ++ F2)]
      exact List.perm_middle
    exact e.nodup_iff.mpr (List.nodup_cons.mpr ⟨np, nd⟩)
  · by_cases q : a = p
    · subst q; exact ⟨nk, nz⟩
    · refine fr a ?_
      simp only [List.mem_append, List.mem_cons] at ha ⊢
      rcases ha with ha | ha | ha | ha
      · exact .inl ha
      · exact .inr (.inl ha)
      · exact absurd ha q
      · exact .inr (.inr ha)
/-- a new thing without things of its own (a tuple) -/
theorem RS.newData {p : Addr} {o : HO} {d : D} (r : RS K en w s σ H pend) (n : H p = none) (h : Rep K w (upd H p o) true (.ref p) d) : RS K en w s σ (upd H p o) (pend ++ [(.ref p, .tr (.fz d))]) :=
  (r.ext (upd_ext (o := o) n)).pushD h
/-- a new list of data -/
theorem RS.newList {p : Addr} {vs : List V} {ds : List D} (r : RS K en w s σ H pend) (n : H p = none) (h : Reps K w H true vs ds) : RS K en w s σ (upd H p (.lst vs)) (pend ++ [(.ref p, .tr (.lst (ds.map T.fz)))]) := by
  have m := r.monoExt (upd_ext (o := .lst vs) n)
  have r1 : RS K en w s σ H (pend ++ ([] : List (V × T)).map fun q => (q.1, RV.tr q.2)) := by simpa using r
  exact r1.newOver n fun F hF => ⟨p, vs, [], rfl, upd_same, RepTs.ofFz (h.mono m (Lg.le_refl w)), by rw [show F = [] from hF]⟩
end
end PL
set_option Elab.async false
set_option linter.all false
set_option maxRecDepth 100000
set_option autoImplicit false
namespace PL
open PySem PySem.Spec PyProof.Rows L2
inductive O where
  | next (s : S) | ret (t : T) (s : S) | brk (s : S) | cont (s : S) | exc (x : Exc) (s : S) | stuck
abbrev GS := S → O
def R.bindO {α : Type} (r : R α) (f : α → S → O) : O := match r with
  | .ok a s => f a s
  | .exc x s => .exc x s
  | .stuck => .stuck
@[simp] theorem R.bindO_ok {α : Type} (a : α) (s : S) (f : α → S → O) : (R.ok a s).bindO f = f a s := rfl
@[simp] theorem R.bindO_exc {α : Type} (x : Exc) (s : S) (f : α → S → O) : (R.exc x s : R α).bindO f = O.exc x s := rfl
@[simp] theorem R.bindO_stuck {α : Type} (f : α → S → O) : (R.stuck : R α).bindO f = O.stuck := rfl
def trs (ps : List (V × T)) : List (V × RV) := ps.map fun q => (q.1, RV.tr q.2)
def PostS (K : PySem.W.Frag) (en : En) (pend : List (V × T)) (D : Ends) : O → Prop
  | .next s => ∀ σ H w, RS K en w s σ H (trs pend) → D.nx σ H
  | .ret t s => ∀ v σ H w, RS K en w s σ H (trs pend ++ [(v, .tr t)]) → D.rt v H
  | .brk s => ∀ σ H w, RS K en w s σ H (trs pend) → D.bk σ H
  | .cont s => ∀ σ H w, RS K en w s σ H (trs pend) → D.ct σ H
  | .exc _ _ => False
  | .stuck => False
def tDs (K : PySem.W.Frag) (g : GS) : TS := fun D σ H => ∃ en w s pend, RS K en w s σ H (trs pend) ∧ PostS K en pend D (g s)
theorem PostS.bind {K : PySem.W.Frag} {en : En} {pend : List (V × T)} {D : Ends} {α : Type} {r : R α} {f : α → S → O} (h : PostS K en pend D (r.bindO f)) : ∃ a s, r = .ok a s ∧ PostS K en pend D (f a s) := by
  cases r with
  | ok a s => exact ⟨a, s, rfl, h⟩
  | exc x s => exact h.elim
  | stuck => exact h.elim
section
variable {K : PySem.W.Frag} {en : En} {w : Lg} {s : S} {σ : L2.St} {H : Hp} {pend : List (V × RV)}
theorem plOk_set {sv : List V} {sl : List T} {i : Nat} {t : T} (ht : t ≠ T.hole) (p : V × RV) : plOk sv sv sl (sl.set i t) p := by
  obtain ⟨v, rv⟩ := p
  cases rv with
  | tr _ => exact True.intro
  | pl j =>
    intro v h ⟨t', e, hn⟩
    refine ⟨h, ?_⟩
    by_cases q : j = i
    · subst q
      have hj : j < sl.length := (List.getElem?_eq_some_iff.mp e).1
      exact ⟨t, List.getElem?_set_self hj, ht⟩
    · exact ⟨t', by rw [List.getElem?_set_ne (Ne.symm q)]; exact e, hn⟩
mutual
theorem RepT.lists : ∀ {v : V} {t : T} {F : List Addr}, RepT K w H v t F → t.able = true → ∀ a ∈ F, ∃ xs, H a = some (.lst xs)
  | _, .hole, _, _, e, _, _ => by cases e
  | _, .fz d, _, h, _, a, ha => by rw [h.2] at ha; cases ha
  | _, .lst ts, _, ⟨a, vs, F', e, q, r, f⟩, z, x, hx => by
    rw [f] at hx
    rcases List.mem_cons.mp hx with rfl | hx
    · exact ⟨_, q⟩
    · exact RepTs.lists r z x hx
  | _, .dct ks ts, _, _, z, _, _ => by cases z
theorem RepTs.lists : ∀ {vs : List V} {ts : List T} {F : List Addr}, RepTs K w H vs ts F → T.ables ts = true → ∀ a ∈ F, ∃ xs, H a = some (.lst xs)
  | [], [], _, h, _, a, ha => by rw [h] at ha; cases ha
  | _ :: _, _ :: _, _, ⟨F1, F2, h1, h2, f⟩, z, x, hx => by
    have z' := (Bool.and_eq_true _ _).mp z
    rw [f] at hx
    rcases List.mem_append.mp hx with hx | hx
    · exact RepT.lists h1 z'.1 x hx
    · exact RepTs.lists h2 z'.2 x hx
  | [], _ :: _, _, h, _, _, _ => h.elim
  | _ :: _, [], _, h, _, _, _ => h.elim
end
/-- the last pending value is frozen -/
def fzv (rv : RV) (s : S) : R RV := match rv with
  | .tr t => if t.able then .ok (.tr (.fz t.view)) s else .stuck
  | .pl i => match s.sl[i]? with
    | some t => if t.able then .ok (.tr (.fz t.view)) { s with sl := s.sl.set i (.fz t.view) } else .stuck
    | none => .stuck
@[simp] theorem fzv_d (d : D) (s : S) : fzv (.tr (.fz d)) s = .ok (.tr (.fz d)) s := rfl
theorem RS.fzLast {v : V} {rv rv' : RV} {s' : S} (r : RS K en w s σ H (pend ++ [(v, rv)])) (e : fzv rv s = .ok rv' s') : ∃ w' d, rv' = RV.d d ∧ RS K en w' s' σ H (pend ++ [(v, rv')]) := by
  obtain ⟨F1, F2, F3, h1, h2, h3, nd, fr⟩ := r.rep
  obtain ⟨G1, G2, g1, g2, rfl⟩ := h3.split
  have g2 := g2.the
  have lz : ∀ F : List Addr, w.le ⟨w.rho, fun a => w.Z a ∨ a ∈ F⟩ := fun F => ⟨List.prefix_refl _, fun _ z => .inl z⟩
  cases rv with
  | tr t =>
    dsimp only [fzv] at e
    split at e
    · rename_i ha
      cases e
      have hT : RepT K w H v t G2 := g2
      refine ⟨⟨w.rho, fun a => w.Z a ∨ a ∈ G2⟩, t.view, rfl, ⟨F1, F2, G1 ++ [], h1.step (Mono.refl w H) (lz G2) (fun _ _ => rfl), h2.step (Mono.refl w H) (lz G2) (fun _ _ => rfl),
        RepVs.app (RepVs.step (Mono.refl w H) (lz G2) (fun p _ => plOk.self p) (fun _ _ => rfl) g1) (RepVs.one (p := (v, RV.tr (.fz t.view))) ⟨hT.freeze (w' := ⟨w.rho, fun a => w.Z a ∨ a ∈ G2⟩) (fun _ z => .inl z) rfl (fun a ha => .inr ha) ha, rfl⟩), ?_, fun a ha => ?_⟩, r.live, r.frame, r.mono, ⟨r.le.1, fun a z => .inl (r.le.2 a z)⟩, fun a z => ?_⟩
      · rw [List.append_nil]
        rw [← List.append_assoc] at nd
        exact (List.nodup_append.mp nd).1
      · have ha' : a ∈ F1 ++ F2 ++ (G1 ++ G2) := by simp only [List.mem_append, List.not_mem_nil, or_false] at ha ⊢; rcases ha with (q | q) | q <;> simp [q]
        refine ⟨(fr a ha').1, fun z => ?_⟩
        rcases z with z | z
        · exact (fr a ha').2 z
        · rw [← List.append_assoc] at nd
          exact (List.nodup_append.mp nd).2.2 a (by simp only [List.mem_append, List.not_mem_nil, or_false] at ha ⊢; rcases ha with (q | q) | q <;> simp [q]) a z rfl
      · rcases z with z | z
        · exact r.zz a z
        · refine ⟨?_, .inr ((fr a (by simp [z])).1)⟩
          exact RepT.lists hT ha a z
    · cases e
  | pl i =>
    dsimp only [fzv] at e
    obtain ⟨e1, ⟨t, e2, hn⟩, e3⟩ := (g2 : (svs σ)[i]? = some v ∧ (∃ t, s.sl[i]? = some t ∧ t ≠ T.hole) ∧ G2 = [])
    rw [e2] at e
    dsimp only at e
    split at e
    · rename_i ha
      cases e
      subst e3
      obtain ⟨v', A1, A2, A3, e4, hT, rfl, up⟩ := RepTs.at h1 e2
      rw [e1] at e4
      cases e4
      have hr : Rep K ⟨w.rho, fun a => w.Z a ∨ a ∈ A2⟩ H true v t.view := hT.freeze (w' := ⟨w.rho, fun a => w.Z a ∨ a ∈ A2⟩) (fun _ z => .inl z) rfl (fun a ha => .inr ha) ha
      have hsv : (svs σ).set i v = svs σ := by
        obtain ⟨hi, q⟩ := List.getElem?_eq_some_iff.mp (show (svs σ)[i]? = some v from e1)
        rw [← q, List.set_getElem_self]
      refine ⟨⟨w.rho, fun a => w.Z a ∨ a ∈ A2⟩, t.view, rfl, ⟨A1 ++ [] ++ A3, F2, G1 ++ [], ?_, h2.step (Mono.refl w H) (lz A2) (fun _ _ => rfl),
        RepVs.app (RepVs.step (Mono.refl w H) (lz A2) (fun p _ => plOk_set (by intro z; cases z) p) (fun _ _ => rfl) g1) (RepVs.one (p := (v, RV.tr (.fz t.view))) ⟨hr, rfl⟩), ?_, fun a ha => ?_⟩, fun j t' ej hj => ?_, r.frame, r.mono, ⟨r.le.1, fun a z => .inl (r.le.2 a z)⟩, fun a z => ?_⟩
      · have q := up ⟨w.rho, fun a => w.Z a ∨ a ∈ A2⟩ H v (.fz t.view) [] (lz A2) (Mono.refl w H) (fun _ _ => rfl) ⟨hr, rfl⟩
        rw [hsv] at q
        exact q
      · have : List.Sublist (A1 ++ [] ++ A3 ++ F2 ++ (G1 ++ [])) (A1 ++ A2 ++ A3 ++ F2 ++ (G1 ++ [])) := by
          simp only [List.append_nil, List.append_assoc]
          exact (List.Sublist.refl _).append (List.sublist_append_right _ _)
        exact nd.sublist this
      · have ha' : a ∈ A1 ++ A2 ++ A3 ++ F2 ++ (G1 ++ []) := by
          simp only [List.mem_append, List.not_mem_nil, or_false] at ha ⊢
          rcases ha with ((q | q) | q) | q <;> simp [q]
        refine ⟨(fr a ha').1, fun z => ?_⟩
        rcases z with z | z
        · exact (fr a ha').2 z
        · have nd2 : (A2 ++ (A1 ++ A3 ++ F2 ++ G1)).Nodup := by
            refine (List.Perm.nodup_iff ?_).mp nd
            simp only [List.append_nil, List.append_assoc]
            refine (List.perm_append_comm_assoc A1 A2 _)
          exact (List.nodup_append.mp nd2).2.2 a z a (by simp only [List.mem_append, List.not_mem_nil, or_false] at ha ⊢; rcases ha with ((q | q) | q) | q <;> simp [q]) rfl
      · by_cases q : j = i
        · subst q
          exact r.live j t e2 hn
        · rw [List.getElem?_set_ne (Ne.symm q)] at ej
          exact r.live j t' ej hj
      · rcases z with z | z
        · exact r.zz a z
        · exact ⟨RepT.lists hT ha a z, .inr ((fr a (by simp [z])).1)⟩
    · cases e
theorem Mono.off {w : Lg} {H H' : Hp} {F : List Addr} (h : ∀ a ∈ F, (∃ o, H a = some o ∧ Mut (some o)) ∧ ¬ w.Z a) (k : ∀ a, a ∉ F → H' a = H a) : Mono w H H' := by
  refine ⟨fun a xs e => ?_, fun a o u e => ?_, fun a z => k a fun ha => (h a ha).2 z⟩
  · rw [k a fun ha => by obtain ⟨⟨o, q, m⟩, _⟩ := h a ha; rw [e] at q; cases q; exact m]; exact e
  · rw [k a fun ha => by obtain ⟨⟨o, q, m⟩, _⟩ := h a ha; rw [e] at q; cases q; exact m]; exact e
/-- a slot's own things change: what stood there, over the last pending trees -/
theorem RS.mutSlot {ps : List (V × T)} {i : Nat} {t0 : T} (r : RS K en w s σ H (pend ++ trs ps)) (e : s.sl[i]? = some t0) :
    ∃ v F0 Fp, (svs σ)[i]? = some v ∧ RepT K w H v t0 F0 ∧ RepTs K w H (ps.map (·.1)) (ps.map (·.2)) Fp ∧ (∀ a ∈ F0, a ∉ Fp) ∧ F0.Nodup ∧ Fp.Nodup ∧
      ∀ (H' : Hp) (t' : T) (F' : List Addr), (∀ a, a ∉ F0 → H' a = H a) → (Mono w H H' → RepT K w H' v t' F') → F'.Nodup → (∀ a ∈ F', a ∈ F0 ++ Fp) → (∀ a ∈ F0, ∃ o, H' a = some o) → t' ≠ T.hole → t0 ≠ T.hole →
        RS K en w { s with sl := s.sl.set i t' } σ H' pend := by
  obtain ⟨F1, F2, F3, h1, h2, h3, nd, fr⟩ := r.rep
  obtain ⟨G1, Fp, g1, g2, rfl⟩ := h3.split
  obtain ⟨v, A1, F0, A3, ev, hT, rfl, up⟩ := RepTs.at h1 e
  have g2' := RepVs.trs g2
  have perm : (A1 ++ F0 ++ A3 ++ F2 ++ (G1 ++ Fp)).Perm (F0 ++ Fp ++ (A1 ++ A3 ++ F2 ++ G1)) := by
    simp only [List.append_assoc]
    refine (List.perm_append_comm_assoc A1 F0 _).trans (List.Perm.append_left F0 ?_)
    refine List.Perm.trans ?_ (List.perm_append_comm_assoc Fp _ _).symm
    refine List.Perm.append_left A1 ?_
    refine List.Perm.trans ?_ (List.perm_append_comm_assoc Fp _ _).symm
    refine List.Perm.append_left A3 ?_
    refine List.Perm.trans ?_ (List.perm_append_comm_assoc Fp _ _).symm
    exact List.Perm.append_left F2 List.perm_append_comm
  have nd' := perm.nodup_iff.mp nd
  have nd0 := (List.nodup_append.mp nd').1
  refine ⟨v, F0, Fp, ev, hT, g2', fun a ha hp => (List.nodup_append.mp nd0).2.2 a ha a hp rfl, (List.nodup_append.mp nd0).1, (List.nodup_append.mp nd0).2.1, fun H' t' F' hk hr nF hF hs ht ht0 => ?_⟩
  have mem0 : ∀ a ∈ F0, a ∈ A1 ++ F0 ++ A3 ++ F2 ++ (G1 ++ Fp) := fun a ha => by simp [ha]
  have m : Mono w H H' := Mono.off (fun a ha => ⟨hT.there a ha, (fr a (mem0 a ha)).2⟩) hk
  have off : ∀ {L : List Addr}, (∀ a ∈ L, a ∈ A1 ++ A3 ++ F2 ++ G1) → ∀ a ∈ L, H' a = H a := fun hL a ha => hk a fun h0 => (List.nodup_append.mp nd').2.2 a (List.mem_append_left _ h0) a (hL a ha) rfl
  have hsv : (svs σ).set i v = svs σ := by
    obtain ⟨hi, q⟩ := List.getElem?_eq_some_iff.mp ev
    rw [← q, List.set_getElem_self]
  have q1 := up w H' v t' F' (Lg.le_refl w) m (off fun a ha => by simp only [List.mem_append] at ha ⊢; rcases ha with q | q <;> simp [q]) (hr m)
  rw [hsv] at q1
  refine ⟨⟨A1 ++ F' ++ A3, F2, G1, q1, h2.step m (Lg.le_refl w) (off fun a ha => by simp [ha]), RepVs.step m (Lg.le_refl w) (fun p _ => plOk_set ht p) (off fun a ha => by simp [ha]) g1, ?_, fun a ha => ?_⟩, fun j t'' ej hj => ?_, fun a o ea => ?_, r.mono.trans m r.le, r.le, fun a z => ?_⟩
  · have p2 : (A1 ++ F' ++ A3 ++ F2 ++ G1).Perm (F' ++ (A1 ++ A3 ++ F2 ++ G1)) := by
      simp only [List.append_assoc]
      exact List.perm_append_comm_assoc A1 F' _
    refine p2.nodup_iff.mpr (List.nodup_append.mpr ⟨nF, (List.nodup_append.mp nd').2.1, fun a ha b hb => ?_⟩)
    exact (List.nodup_append.mp nd').2.2 a (hF a ha) b hb
  · by_cases q : a ∈ F'
    · have := hF a q
      refine fr a ?_
      simp only [List.mem_append] at this ⊢
      rcases this with q | q <;> simp [q]
    · refine fr a ?_
      simp only [List.mem_append] at ha ⊢
      rcases ha with (((x | x) | x) | x) | x
      · simp [x]
      · exact absurd x q
      · simp [x]
      · simp [x]
      · simp [x]
  · by_cases q : j = i
    · subst q
      exact r.live j t0 e ht0
    · rw [List.getElem?_set_ne (Ne.symm q)] at ej
      exact r.live j t'' ej hj
  · by_cases q : a ∈ F0
    · have := (fr a (mem0 a q)).1
      rcases this with z | z
      · rw [z] at ea; cases ea
      · exact .inl z
    · rcases r.frame a o ea with z | z
      · exact .inl z
      · exact .inr ((hk a q).trans z)
  · obtain ⟨⟨xs, ez⟩, hz⟩ := r.zz a z
    exact ⟨⟨xs, (m.fro a z).trans ez⟩, hz⟩
/-- no pending place names the slot i -/
def NoPl (i : Nat) (pend : List (V × RV)) : Prop := ∀ u, (u, RV.pl i) ∉ pend
theorem NoPl.trs (i : Nat) (ps : List (V × T)) : NoPl i (trs ps) := fun u h => by
  obtain ⟨q, _, e⟩ := List.mem_map.mp h
  cases e
theorem plOk_off {sv : List V} {sl : List T} {i : Nat} {v : V} {t : T} (np : NoPl i pend) {p : V × RV} (hp : p ∈ pend) : plOk sv (sv.set i v) sl (sl.set i t) p := by
  obtain ⟨u, rv⟩ := p
  cases rv with
  | tr _ => exact True.intro
  | pl j =>
    have hj : i ≠ j := fun e => np u (e ▸ hp)
    intro x h ⟨t', e, hn⟩
    exact ⟨by rw [List.getElem?_set_ne hj]; exact h, t', by rw [List.getElem?_set_ne hj]; exact e, hn⟩
/-- a slot that holds nothing is named by no pending place -/
theorem RS.noPl (r : RS K en w s σ H pend) {i : Nat} (h : s.sl[i]? = some .hole) : NoPl i pend := fun u hm => by
  obtain ⟨F1, F2, F3, h1, h2, h3, nd, fr⟩ := r.rep
  have key : ∀ {ps : List (V × RV)} {F3 : List Addr}, RepVs K w H (svs σ) s.sl ps F3 → (u, RV.pl i) ∈ ps → ∃ F, RepV K w H (svs σ) s.sl (u, RV.pl i) F := fun {ps} => by
    induction ps with
    | nil => intro _ _ h; cases h
    | cons q qs ih =>
      intro F ⟨G1, G2, g1, g2, g⟩ hm
      rcases List.mem_cons.mp hm with e | e
      · rw [e]; exact ⟨G1, g1⟩
      · exact ih g2 e
  obtain ⟨F, _, ⟨t, e, hn⟩, _⟩ := key h3 hm
  rw [h] at e
  cases e
  exact hn rfl
/-- a name is stored -/
theorem RS.store {i : Nat} {v : V} {t : T} (r : RS K en w s σ H (pend ++ [(v, .tr t)])) (hi : i < s.sl.length) (np : NoPl i pend) : RS K en w { s with sl := s.sl.set i t } (σ.set i (some v)) H pend := by
  obtain ⟨F1, F2, F3, h1, h2, h3, nd, fr⟩ := r.rep
  obtain ⟨G1, G2, g1, g2, rfl⟩ := h3.split
  have g2 : RepT K w H v t G2 := g2.the
  obtain ⟨v0, A1, F0, A3, ev, hT, rfl, up⟩ := RepTs.at h1 (List.getElem?_eq_getElem hi)
  have q1 := up w H v t G2 (Lg.le_refl w) (Mono.refl w H) (fun _ _ => rfl) g2
  have q2 : RepTs K w H (svs (σ.set i (some v))) (s.sl.set i t) (A1 ++ G2 ++ A3) := by rw [svs_set]; exact q1
  have perm : (A1 ++ F0 ++ A3 ++ F2 ++ (G1 ++ G2)).Perm (F0 ++ (A1 ++ G2 ++ A3 ++ F2 ++ G1)) := by
    simp only [List.append_assoc]
    refine (List.perm_append_comm_assoc A1 F0 _).trans (List.Perm.append_left F0 (List.Perm.append_left A1 ?_))
    refine List.Perm.trans ?_ (List.perm_append_comm_assoc G2 _ _).symm
    refine List.Perm.append_left A3 ?_
    refine List.Perm.trans ?_ (List.perm_append_comm_assoc G2 _ _).symm
    exact List.Perm.append_left F2 List.perm_append_comm
  have nd' := (List.nodup_append.mp (perm.nodup_iff.mp nd)).2.1
  have hs : i < σ.length := by have := h1.len; rw [svs_len] at this; omega
  refine ⟨⟨A1 ++ G2 ++ A3, F2, G1, q2, h2, RepVs.step (Mono.refl w H) (Lg.le_refl w) (fun p hp => ?_) (fun _ _ => rfl) g1, nd', fun a ha => fr a (perm.mem_iff.mpr (List.mem_append_right _ ha))⟩, fun j t' ej hj => ?_, r.frame, r.mono, r.le, r.zz⟩
  · rw [svs_set]
    exact plOk_off np hp
  · by_cases q : j = i
    · subst q
      exact ⟨v, List.getElem?_set_self hs⟩
    · rw [List.getElem?_set_ne (Ne.symm q)] at ej
      obtain ⟨v', e'⟩ := r.live j t' ej hj
      exact ⟨v', by rw [List.getElem?_set_ne (Ne.symm q)]; exact e'⟩
/-- a slot is forgotten -/
theorem RS.forget (i : Nat) (r : RS K en w s σ H pend) (np : NoPl i pend) : RS K en w { s with sl := s.sl.set i .hole } σ H pend := by
  by_cases hi : i < s.sl.length
  · obtain ⟨F1, F2, F3, h1, h2, h3, nd, fr⟩ := r.rep
    obtain ⟨v0, A1, F0, A3, ev, hT, rfl, up⟩ := RepTs.at h1 (List.getElem?_eq_getElem hi)
    have q1 := up w H v0 .hole [] (Lg.le_refl w) (Mono.refl w H) (fun _ _ => rfl) rfl
    have hsv : (svs σ).set i v0 = svs σ := by
      obtain ⟨hi, q⟩ := List.getElem?_eq_some_iff.mp ev
      rw [← q, List.set_getElem_self]
    rw [hsv] at q1
    have sub : List.Sublist (A1 ++ [] ++ A3 ++ F2 ++ F3) (A1 ++ F0 ++ A3 ++ F2 ++ F3) := by
      simp only [List.append_nil, List.append_assoc]
      exact (List.Sublist.refl _).append (List.sublist_append_right _ _)
    refine ⟨⟨A1 ++ [] ++ A3, F2, F3, q1, h2, RepVs.step (Mono.refl w H) (Lg.le_refl w) (fun p hp => ?_) (fun _ _ => rfl) h3, nd.sublist sub, fun a ha => fr a (sub.mem ha)⟩, fun j t' ej hj => ?_, r.frame, r.mono, r.le, r.zz⟩
    · have q := plOk_off (sv := svs σ) (sl := s.sl) (v := v0) (t := .hole) np hp
      rw [hsv] at q
      exact q
    · by_cases q : j = i
      · subst q
        rw [List.getElem?_set_self hi] at ej
        cases ej
        exact absurd rfl hj
      · rw [List.getElem?_set_ne (Ne.symm q)] at ej
        exact r.live j t' ej hj
  · rw [List.set_eq_of_length_le (Nat.le_of_not_lt hi)]
    exact r
/-- other slots, where nothing is held -/
theorem RS.resig {σ' : L2.St} (r : RS K en w s σ H pend) (hl : σ'.length = σ.length) (h : ∀ (i : Nat) (t : T), s.sl[i]? = some t → t ≠ T.hole → σ'[i]? = (σ[i]? : Option (Option V))) : RS K en w s σ' H pend := by
  obtain ⟨F1, F2, F3, h1, h2, h3, nd, fr⟩ := r.rep
  have key : ∀ {sl : List T} {vs vs' : List V} {F : List Addr}, RepTs K w H vs sl F → vs'.length = vs.length → (∀ (i : Nat) (t : T), sl[i]? = some t → t ≠ T.hole → vs'[i]? = vs[i]?) → RepTs K w H vs' sl F := by
    intro sl
    induction sl with
    | nil =>
      intro vs vs' F h hl _
      cases vs with
      | nil => cases vs' with
        | nil => exact h
        | cons _ _ => cases hl
      | cons _ _ => exact h.elim
    | cons t ts ih =>
      intro vs vs' F h hl k
      cases vs with
      | nil => exact h.elim
      | cons v vs =>
        cases vs' with
        | nil => cases hl
        | cons v' vs' =>
          obtain ⟨G1, G2, g1, g2, f⟩ := h
          refine ⟨G1, G2, ?_, ih g2 (Nat.succ.inj hl) fun i t e n => k (i + 1) t e n, f⟩
          by_cases ht : t = T.hole
          · subst ht; exact g1
          · have := k 0 t rfl ht
            have e : v' = v := Option.some.inj this
            rw [e]; exact g1
  have sv : ∀ (i : Nat) (t : T), s.sl[i]? = some t → t ≠ T.hole → (svs σ')[i]? = (svs σ)[i]? := fun i t e n => by
    unfold svs
    rw [List.getElem?_map, List.getElem?_map, h i t e n]
  refine ⟨⟨F1, F2, F3, key h1 (by rw [svs_len, svs_len, hl]) sv, h2, RepVs.step (Mono.refl w H) (Lg.le_refl w) (fun p hp => ?_) (fun _ _ => rfl) h3, nd, fr⟩, fun i t e n => ?_, r.frame, r.mono, r.le, r.zz⟩
  · obtain ⟨v, rv⟩ := p
    cases rv with
    | tr _ => exact True.intro
    | pl i => exact fun v' e ⟨t, e1, n⟩ => ⟨by rw [sv i t e1 n]; exact e, t, e1, n⟩
  · obtain ⟨v, q⟩ := r.live i t e n
    exact ⟨v, by rw [h i t e n]; exact q⟩
end
end PL
set_option Elab.async false
set_option linter.all false
set_option maxRecDepth 100000
set_option autoImplicit false
namespace PL
open PySem PySem.Spec PyProof.Rows L2
def fzs : List T → Option (List D)
  | [] => some []
  | .fz d :: ts => (fzs ts).map (d :: ·)
  | _ => none
@[simp] theorem fzs_map : ∀ ds : List D, fzs (ds.map T.fz) = some ds
  | [] => rfl
  | d :: ds => by rw [List.map_cons, fzs, fzs_map ds]; rfl
@[simp] theorem fzs_nil : fzs [] = some [] := rfl
theorem fzs_eq : ∀ {ts : List T} {ds : List D}, fzs ts = some ds → ts = ds.map T.fz
  | [], ds, h => by cases h; rfl
  | .fz d :: ts, ds, h => by
    rw [fzs] at h
    cases q : fzs ts with
    | none => rw [q] at h; cases h
    | some es => rw [q] at h; cases h; rw [fzs_eq q]; rfl
  | .hole :: _, _, h => by cases h
  | .lst _ :: _, _, h => by cases h
  | .dct _ _ :: _, _, h => by cases h
/-- data -/
def dat (s : S) (rv : RV) : Option D := match look s rv with
  | .fz d => some d
  | _ => none
@[simp] theorem dat_fz (s : S) (d : D) : dat s (.tr (.fz d)) = some d := rfl
/-- a list's items, data -/
def lsd (s : S) (rv : RV) : Option (List D) := match look s rv with
  | .fz (.lst ds) => some ds
  | .lst ts => fzs ts
  | _ => none
@[simp] theorem lsd_fz (s : S) (ds : List D) : lsd s (.tr (.fz (.lst ds))) = some ds := rfl
@[simp] theorem lsd_lst (s : S) (ts : List T) : lsd s (.tr (.lst ts)) = fzs ts := rfl
mutual
def toPy : D → Option PyData
  | .non => some .none
  | .bl b => some (.bool b)
  | .int i => some (.int i)
  | .str s => some (.str s)
  | .tup ds => (toPys ds).map .tuple
  | .lst ds => (toPys ds).map .list
  | .fl ds => (toPys ds).map .list
  | .obj _ => none
  | .fn _ => none
def toPys : List D → Option (List PyData)
  | [] => some []
  | d :: ds => match toPy d, toPys ds with
    | some p, some ps => some (p :: ps)
    | _, _ => none
end
section
variable {K : PySem.W.Frag} {w : Lg} {H : Hp} {b : Bool}
mutual
theorem Rep.dp : ∀ {v : V} {d : D} {p : PyData}, Rep K w H b v d → toPy d = some p → Dp K H v p
  | v, .non, p, h, e => by cases e; rw [show v = .non from h]; exact .non
  | v, .bl _, p, h, e => by cases e; rw [show v = .bl _ from h]; exact .bl _
  | v, .int _, p, h, e => by cases e; rw [show v = .int _ from h]; exact .int _
  | v, .str _, p, h, e => by cases e; rw [show v = .str _ from h.1]; exact .str _
  | v, .tup ds, p, ⟨a, vs, e1, q, r⟩, e => by
    rw [toPy] at e
    cases hp : toPys ds with
    | none => rw [hp] at e; cases e
    | some ps => rw [hp] at e; cases e; rw [e1]; exact .tup q (Reps.dp r hp)
  | v, .lst ds, p, ⟨a, vs, e1, q, _, r⟩, e => by
    rw [toPy] at e
    cases hp : toPys ds with
    | none => rw [hp] at e; cases e
    | some ps => rw [hp] at e; cases e; rw [e1]; exact .lst (SqL.of q) (Reps.dp r hp)
  | v, .fl ds, p, ⟨a, vs, e1, q, r⟩, e => by
    rw [toPy] at e
    cases hp : toPys ds with
    | none => rw [hp] at e; cases e
    | some ps => rw [hp] at e; cases e; rw [e1]; exact .lst q.sq (Reps.dp r hp)
  | _, .obj _, _, _, e => by cases e
  | _, .fn _, _, _, e => by cases e
theorem Reps.dp : ∀ {vs : List V} {ds : List D} {ps : List PyData}, Reps K w H b vs ds → toPys ds = some ps → DpAll K H vs ps
  | [], [], _, _, e => by cases e; exact .nil
  | _ :: _, d :: ds, _, h, e => by
    rw [toPys] at e
    cases h1 : toPy d with
    | none => rw [h1] at e; cases e
    | some p =>
      cases h2 : toPys ds with
      | none => rw [h1, h2] at e; cases e
      | some ps => rw [h1, h2] at e; cases e; exact .cons (Rep.dp h.1 h1) (Reps.dp h.2 h2)
  | [], _ :: _, _, h, _ => h.elim
  | _ :: _, [], _, h, _ => h.elim
end
end
/-- Python's == of data (None: the model's rule does not reach it) -/
def dEq (a b : D) : Option Bool := match toPy a, toPy b with
  | some p, some q => if SeqAt.shaped p && SeqAt.shaped q then some (PyData.eqv p q) else none
  | _, _ => none
/-- Python's d in ds -/
def dIn (d : D) (ds : List D) : Option Bool := match toPy d, toPys ds with
  | some p, some ps => if SeqAt.shaped p && SeqAt.shaped (.list ps) then some (ps.any fun z => PyData.eqv z p) else none
  | _, _ => none
section
variable {K : PySem.W.Frag} {en : En} {w : Lg} {s : S} {σ : L2.St} {H : Hp} {pend : List (V × RV)}
theorem RS.dat_ (r : RS K en w s σ H pend) {v : V} {rv : RV} {d : D} (hp : (v, rv) ∈ pend) (e : PL.dat s rv = some d) : Rep K w H true v d := by
  obtain ⟨F, hF⟩ := r.tree hp
  unfold PL.dat at e
  split at e
  · rename_i d' q
    cases e
    have hF : RepT K w H v (look s rv) F := hF
    rw [q] at hF
    exact hF.1
  · cases e
theorem RS.lsd_ (r : RS K en w s σ H pend) {v : V} {rv : RV} {ds : List D} (hp : (v, rv) ∈ pend) (e : lsd s rv = some ds) : ∃ a vs, v = .ref a ∧ H a = some (.lst vs) ∧ Reps K w H true vs ds := by
  obtain ⟨F, hF⟩ := r.tree hp
  have hF : RepT K w H v (look s rv) F := hF
  unfold lsd at e
  split at e
  · rename_i d' q
    cases e
    rw [q] at hF
    obtain ⟨⟨a, vs, e1, e2, _, e3⟩, _⟩ := hF
    exact ⟨a, vs, e1, e2, e3⟩
  · rename_i ts q
    rw [q] at hF
    obtain ⟨a, vs, F', e1, e2, e3, _⟩ := hF
    rw [fzs_eq e] at e3
    exact ⟨a, vs, e1, e2, (RepTs.fz e3).1⟩
  · cases e
theorem RS.drop2 {p q : V × RV} (r : RS K en w s σ H (pend ++ [p] ++ [q])) : RS K en w s σ H pend := r.drop.drop
end
/-! ### rules -/
def gVar (i : Nat) : G := fun s => match s.sl[i]? with
  | some (.fz d) => .ok (.tr (.fz d)) s
  | some (.lst _) => .ok (.pl i) s
  | some (.dct _ _) => .ok (.pl i) s
  | _ => .stuck
def gC (d : D) : G := fun s => .ok (.tr (.fz d)) s
def gFz (g : G) : G := fun s => (g s).bind fzv
/-- a place is frozen, a tree of its own stays -/
def npv (rv : RV) (s : S) : R RV := match rv with
  | .tr t => .ok (.tr t) s
  | .pl i => fzv (.pl i) s
@[simp] theorem npv_tr (t : T) (s : S) : npv (.tr t) s = .ok (.tr t) s := rfl
def gNp (g : G) : G := fun s => (g s).bind npv
def gOp (p : S → RV → RV → R RV) (ga gb : G) : G := fun s => (ga s).bind fun x s1 => (gb s1).bind fun y s2 => p s2 x y
def gUn (p : S → RV → R RV) (ga : G) : G := fun s => (ga s).bind fun x s1 => p s1 x
section
variable {X : Cx} {e a b c : Expr} {ga gb gc : G} {pos : Pos}
theorem de_var (i : Nat) {x : Str} (hN : X.N[i]? = some x := by rfl) (hv : Vis X.env.scope x := by first | exact Or.inl rfl | exact Or.inr (Or.inl rfl) | exact Or.inr (Or.inr rfl)) (hd : (x == ("__debug__" : Str)) = false := by decide)
    (hcd : (x == ("__classdict__" : Str)) = false := by decide) : PE X (.Name x pos) (tD X.K (gVar i)) := by
  refine PE.imp (pe_var hN hv hd hcd) fun σ H Q ⟨en, w, s, pend, r, po⟩ => ?_
  cases e : s.sl[i]? with
  | none => rw [gVar, e] at po; exact po.elim
  | some t =>
    have key : t ≠ T.hole → ∃ v, σ[i]? = some (some v) ∧ (svs σ)[i]? = some v ∧ ∃ F, RepT X.K w H v t F := fun hn => by
      obtain ⟨v, ev⟩ := r.live i t e hn
      obtain ⟨F1, F2, F3, h1, _⟩ := r.rep
      obtain ⟨v', A1, A2, A3, e4, hT, _⟩ := RepTs.at h1 e
      rw [svs_get ev] at e4
      cases e4
      exact ⟨v, ev, svs_get ev, A2, hT⟩
    cases t with
    | hole => rw [gVar, e] at po; exact po.elim
    | fz d =>
      obtain ⟨v, e1, e2, F, hT⟩ := key (by intro z; cases z)
      rw [gVar, e] at po
      exact ⟨v, e1, po v H w (r.pushD hT.1)⟩
    | lst ts =>
      obtain ⟨v, e1, e2, F, hT⟩ := key (by intro z; cases z)
      rw [gVar, e] at po
      exact ⟨v, e1, po v H w (r.push (p := (v, RV.pl i)) ⟨e2, ⟨_, e, by intro z; cases z⟩, rfl⟩)⟩
    | dct ks ts =>
      obtain ⟨v, e1, e2, F, hT⟩ := key (by intro z; cases z)
      rw [gVar, e] at po
      exact ⟨v, e1, po v H w (r.push (p := (v, RV.pl i)) ⟨e2, ⟨_, e, by intro z; cases z⟩, rfl⟩)⟩
theorem de_c {v : V} {d : D} (h : PE X e (tC v)) (hr : ∀ (w : Lg) (H : Hp), Rep X.K w H true v d) : PE X e (tD X.K (gC d)) :=
  PE.imp h fun σ H Q ⟨en, w, s, pend, r, po⟩ => po v H w (r.pushD (hr w H))
theorem de_int {i j} : PE X (.Constant (.int i) j pos) (tD X.K (gC (.int i))) := de_c pe_int fun _ _ => rfl
theorem de_bl {i j} : PE X (.Constant (.bool i) j pos) (tD X.K (gC (.bl i))) := de_c pe_bl fun _ _ => rfl
theorem de_non {j} : PE X (.Constant .none j pos) (tD X.K (gC .non)) := de_c pe_non fun _ _ => rfl
theorem de_str {i j} (h : i.length ≤ sizeLine := by decide) : PE X (.Constant (.str i) j pos) (tD X.K (gC (.str i))) := de_c pe_str fun _ _ => ⟨rfl, h⟩
theorem de_fz (h : PE X e (tD X.K ga)) : PE X e (tD X.K (gFz ga)) := PE.imp h fun σ H Q ⟨en, w, s, pend, r, po⟩ => by
  obtain ⟨rv, s1, e1, po⟩ := Post.bind po
  refine tD.first r e1 fun v H1 w1 r1 => ?_
  cases e2 : fzv rv s1 with
  | ok rv' s2 =>
    rw [e2] at po
    obtain ⟨w2, d, _, r2⟩ := r1.fzLast e2
    exact po v H1 w2 r2
  | exc x s2 => rw [e2] at po; exact po.elim
  | stuck => rw [e2] at po; exact po.elim
theorem de_np (h : PE X e (tD X.K ga)) : PE X e (tD X.K (gNp ga)) := PE.imp h fun σ H Q ⟨en, w, s, pend, r, po⟩ => by
  obtain ⟨rv, s1, e1, po⟩ := Post.bind po
  refine tD.first r e1 fun v H1 w1 r1 => ?_
  cases rv with
  | tr t => exact po v H1 w1 r1
  | pl i =>
    have po : Post X.K en σ pend Q (fzv (.pl i) s1) := po
    cases e2 : fzv (.pl i) s1 with
    | ok rv' s2 =>
      rw [e2] at po
      obtain ⟨w2, d, _, r2⟩ := r1.fzLast e2
      exact po v H1 w2 r2
    | exc x s2 => rw [e2] at po; exact po.elim
    | stuck => rw [e2] at po; exact po.elim
def OpS (K : PySem.W.Frag) (r : R2) (p : S → RV → RV → R RV) : Prop :=
  ∀ (en : En) (w : Lg) (s : S) (σ : L2.St) (H : Hp) (pend : List (V × RV)) (x y : V) (rx ry : RV) (Q : VK), RS K en w s σ H (pend ++ [(x, rx)] ++ [(y, ry)]) → Post K en σ pend Q (p s rx ry) → r x y H Q
def UnS (K : PySem.W.Frag) (r : V → Hp → VK → Prop) (p : S → RV → R RV) : Prop :=
  ∀ (en : En) (w : Lg) (s : S) (σ : L2.St) (H : Hp) (pend : List (V × RV)) (x : V) (rx : RV) (Q : VK), RS K en w s σ H (pend ++ [(x, rx)]) → Post K en σ pend Q (p s rx) → r x H Q
theorem tOp_of {r : R2} {p : S → RV → RV → R RV} (hS : OpS X.K r p) {σ : L2.St} {H : Hp} {Q : VK} (h : tD X.K (gOp p ga gb) σ H Q) : tOp r (tD X.K ga) (tD X.K gb) σ H Q := by
  obtain ⟨en, w, s, pend, rs, po⟩ := h
  obtain ⟨rx, s1, e1, po⟩ := Post.bind po
  obtain ⟨ry, s2, e2, po⟩ := Post.bind po
  exact tD.first rs e1 fun x H1 w1 r1 => tD.first r1 e2 fun y H2 w2 r2 => hS en w2 s2 σ H2 pend x y rx ry Q r2 po
theorem tUn_of {r : V → Hp → VK → Prop} {p : S → RV → R RV} (hS : UnS X.K r p) {σ : L2.St} {H : Hp} {Q : VK} (h : tD X.K (gUn p ga) σ H Q) : tUn r (tD X.K ga) σ H Q := by
  obtain ⟨en, w, s, pend, rs, po⟩ := h
  obtain ⟨rx, s1, e1, po⟩ := Post.bind po
  exact tD.first rs e1 fun x H1 w1 r1 => hS en w1 s1 σ H1 pend x rx Q r1 po
theorem de_op {op : Operator} {r : R2} {p : S → RV → RV → R RV} (ho : OpR X (binaryOp op) r) (hS : OpS X.K r p) (ha : PE X a (tD X.K ga)) (hb : PE X b (tD X.K gb)) : PE X (.BinOp a op b pos) (tD X.K (gOp p ga gb)) :=
  PE.imp (pe_op ho ha hb) fun _ _ _ h => tOp_of hS h
theorem de_un {op : UnaryOp} {r : V → Hp → VK → Prop} {p : S → RV → R RV} (ho : UnR X (unaryOp op) r) (hS : UnS X.K r p) (ha : PE X a (tD X.K ga)) : PE X (.UnaryOp op a pos) (tD X.K (gUn p ga)) :=
  PE.imp (pe_un ho ha) fun _ _ _ h => tUn_of hS h
theorem de_cmp {op : CmpOp} {r : R2} {p : S → RV → RV → R RV} (ho : OpR X (compareOp op) r) (hS : OpS X.K r p) (ha : PE X a (tD X.K ga)) (hb : PE X b (tD X.K gb)) (hm : behindInMarks op b = false) : PE X (.Compare a [op] [b] pos) (tD X.K (gOp p ga gb)) :=
  PE.imp (pe_cmpR ho ha hb hm) fun _ _ _ h => tOp_of hS h
theorem de_ix {r : R2} {p : S → RV → RV → R RV} (ho : IxR X r) (hS : OpS X.K r p) (ha : PE X a (tD X.K ga)) (hb : PE X b (tD X.K gb)) (hs : PlainIx b) : PE X (.Subscript a b pos) (tD X.K (gOp p ga gb)) :=
  PE.imp (pe_ix ho ha hb hs) fun _ _ _ h => tOp_of hS h
/-! tests -/
/-- a value's truth -/
def tru (s : S) (rv : RV) : Option Bool := match look s rv with
  | .fz .non => some false
  | .fz (.bl b) => some b
  | .fz (.int i) => some (i != 0)
  | .fz (.str x) => some ((x.length : Int) != 0)
  | .fz (.tup ds) => some (!ds.isEmpty)
  | .fz (.lst ds) => some (!ds.isEmpty)
  | .fz (.fl ds) => some (!ds.isEmpty)
  | .lst ts => some (!ts.isEmpty)
  | _ => none
theorem Reps.emp {K : PySem.W.Frag} {w : Lg} {H : Hp} {b : Bool} : ∀ {vs : List V} {ds : List D}, Reps K w H b vs ds → vs.isEmpty = ds.isEmpty
  | [], [], _ => rfl
  | _ :: _, _ :: _, _ => rfl
  | [], _ :: _, h => h.elim
  | _ :: _, [], h => h.elim
theorem RepTs.emp {K : PySem.W.Frag} {w : Lg} {H : Hp} : ∀ {vs : List V} {ts : List T} {F : List Addr}, RepTs K w H vs ts F → vs.isEmpty = ts.isEmpty
  | [], [], _, _ => rfl
  | _ :: _, _ :: _, _, _ => rfl
  | [], _ :: _, _, h => h.elim
  | _ :: _, [], _, h => h.elim
theorem RS.tru {K : PySem.W.Frag} {en : En} {w : Lg} {s : S} {σ : L2.St} {H : Hp} {pend : List (V × RV)} (r : RS K en w s σ H pend) {v : V} {rv : RV} {k : Bool} (hp : (v, rv) ∈ pend) (e : tru s rv = some k) : TruV K v H k := by
  obtain ⟨F, hF⟩ := r.tree hp
  have hF : RepT K w H v (look s rv) F := hF
  unfold PL.tru at e
  split at e <;> rename_i q <;> first | cases e | skip
  · rw [q] at hF; rw [show v = .non from hF.1]; rfl
  · rw [q] at hF; rw [show v = .bl _ from hF.1]; rfl
  · rw [q] at hF; rw [show v = .int _ from hF.1]; rfl
  · rw [q] at hF; obtain ⟨⟨h1, h2⟩, _⟩ := hF; rw [h1]; exact ⟨h2, rfl⟩
  · rw [q] at hF; obtain ⟨⟨a, vs, h1, h2, h3⟩, _⟩ := hF; rw [h1]; exact .inr (.inl ⟨vs, h2, by rw [h3.emp]⟩)
  · rw [q] at hF; obtain ⟨⟨a, vs, h1, h2, _, h3⟩, _⟩ := hF; rw [h1]; exact .inl ⟨vs, SqL.of h2, by rw [h3.emp]⟩
  · rw [q] at hF; obtain ⟨⟨a, vs, h1, h2, h3⟩, _⟩ := hF; rw [h1]; exact .inl ⟨vs, h2.sq, by rw [h3.emp]⟩
  · rw [q] at hF; obtain ⟨a, vs, F', h1, h2, h3, _⟩ := hF; rw [h1]; exact .inl ⟨vs, SqL.of h2, by rw [h3.emp]⟩
def gTru (g : G) : GT := fun s => (g s).bind fun rv s1 => match tru s1 rv with
  | some k => .ok k s1
  | none => .stuck
theorem dt_tru (h : PE X e (tD X.K ga)) (he : ∀ whole, isTrue e X.env whole = (do let v ← whole; standAt e.pos; holding [v] (truthy v)) := by intro _; rfl) : PT X e (tDt X.K (gTru ga)) :=
  PT.imp (pt_truth h he) fun σ H Q ⟨en, w, s, pend, r, po⟩ => by
    obtain ⟨rv, s1, e1, po⟩ := PostT.bind po
    refine tD.first r e1 fun v H1 w1 r1 => ?_
    cases e2 : tru s1 rv with
    | none => rw [e2] at po; exact po.elim
    | some k =>
      rw [e2] at po
      exact ⟨k, r1.tru (rv := rv) (by simp) e2, po H1 w1 r1.drop⟩
/-- a comparison as a test -/
def bv (rv : RV) (s : S) : R Bool := match rv with
  | .tr (.fz (.bl b)) => .ok b s
  | _ => .stuck
@[simp] theorem bv_bl (b : Bool) (s : S) : bv (.tr (.fz (.bl b))) s = .ok b s := rfl
def gB (g : G) : GT := fun s => (g s).bind bv
theorem tTest_of {ta : TE} (h : ∀ (σ : L2.St) (H : Hp) (Q : VK), tD X.K ga σ H Q → ta σ H Q) {σ : L2.St} {H : Hp} {Q : Bool → Hp → Prop} (q : tDt X.K (gB ga) σ H Q) : tTest ta σ H Q := by
  obtain ⟨en, w, s, pend, r, po⟩ := q
  obtain ⟨rv, s1, e1, po⟩ := PostT.bind po
  refine h σ H _ (tD.first r e1 fun v H1 w1 r1 => ?_)
  unfold bv at po
  split at po
  · rename_i b
    exact ⟨b, (show v = .bl b from r1.dat (v := v) (d := .bl b) (by simp)), po H1 w1 r1.drop⟩
  · exact po.elim
theorem dt_cmp {op : CmpOp} {r : R2} {p : S → RV → RV → R RV} (ho : OpR X (compareOp op) r) (hS : OpS X.K r p) (ha : PE X a (tD X.K ga)) (hb : PE X b (tD X.K gb)) (hm : behindInMarks op b = false) : PT X (.Compare a [op] [b] pos) (tDt X.K (gB (gOp p ga gb))) :=
  PT.imp (pt_cmpR ho ha hb hm) fun _ _ _ h => tTest_of (fun _ _ _ q => tOp_of hS q) h
def gAndT (g h : GT) : GT := fun s => (g s).bind fun b s1 => if b then h s1 else .ok false s1
def gOrT (g h : GT) : GT := fun s => (g s).bind fun b s1 => if b then .ok true s1 else h s1
def gNotT (g : GT) : GT := fun s => (g s).bind fun b s1 => .ok (!b) s1
variable {ta tb : GT} {rest : List Expr}
theorem tAnd_of {σ : L2.St} {H : Hp} {Q : Bool → Hp → Prop} (q : tDt X.K (gAndT ta tb) σ H Q) : tAnd (tDt X.K ta) (tDt X.K tb) σ H Q := by
  obtain ⟨en, w, s, pend, r, po⟩ := q
  obtain ⟨k, s1, e1, po⟩ := PostT.bind po
  refine tDt.first r e1 fun H1 w1 r1 => ?_
  cases k with
  | true => exact ⟨en, w1, s1, pend, r1, po⟩
  | false => exact po H1 w1 r1
theorem tOr_of {σ : L2.St} {H : Hp} {Q : Bool → Hp → Prop} (q : tDt X.K (gOrT ta tb) σ H Q) : tOr (tDt X.K ta) (tDt X.K tb) σ H Q := by
  obtain ⟨en, w, s, pend, r, po⟩ := q
  obtain ⟨k, s1, e1, po⟩ := PostT.bind po
  refine tDt.first r e1 fun H1 w1 r1 => ?_
  cases k with
  | true => exact po H1 w1 r1
  | false => exact ⟨en, w1, s1, pend, r1, po⟩
theorem dw_and1 (ha : PT X a (tDt X.K ta)) : PW X (.BoolOp .And [a] pos) (tDt X.K ta) := pw_and1 ha
theorem dw_or1 (ha : PT X a (tDt X.K ta)) : PW X (.BoolOp .Or [a] pos) (tDt X.K ta) := pw_or1 ha
theorem dw_and (ha : PT X a (tDt X.K ta)) (hb : PW X (.BoolOp .And (b :: rest) pos) (tDt X.K tb)) : PW X (.BoolOp .And (a :: b :: rest) pos) (tDt X.K (gAndT ta tb)) := PW.imp (pw_and ha hb) fun _ _ _ h => tAnd_of h
theorem dw_or (ha : PT X a (tDt X.K ta)) (hb : PW X (.BoolOp .Or (b :: rest) pos) (tDt X.K tb)) : PW X (.BoolOp .Or (a :: b :: rest) pos) (tDt X.K (gOrT ta tb)) := PW.imp (pw_or ha hb) fun _ _ _ h => tOr_of h
theorem dt_not (ha : PT X a (tDt X.K ta)) : PT X (.UnaryOp .Not a pos) (tDt X.K (gNotT ta)) := PT.imp (pt_not ha) fun σ H Q ⟨en, w, s, pend, r, po⟩ => by
  obtain ⟨k, s1, e1, po⟩ := PostT.bind po
  exact tDt.first r e1 fun H1 w1 r1 => po H1 w1 r1
/-! and, or, not as values; a conditional -/
def gAnd (ga gb : G) : G := fun s => (ga s).bind fun rv s1 => match tru s1 rv with
  | some true => gb s1
  | some false => .ok rv s1
  | none => .stuck
def gOr (ga gb : G) : G := fun s => (ga s).bind fun rv s1 => match tru s1 rv with
  | some true => .ok rv s1
  | some false => gb s1
  | none => .stuck
def gNot (ga : G) : G := fun s => (ga s).bind fun rv s1 => match tru s1 rv with
  | some k => .ok (.tr (.fz (.bl (!k)))) s1
  | none => .stuck
def gIf (gt : GT) (ga gb : G) : G := fun s => (gt s).bind fun k s1 => if k then ga s1 else gb s1
theorem de_and (ha : PE X a (tD X.K ga)) (hb : PE X (.BoolOp .And (b :: rest) pos) (tD X.K gb)) : PE X (.BoolOp .And (a :: b :: rest) pos) (tD X.K (gAnd ga gb)) :=
  PE.imp (pe_andT ha hb) fun σ H Q ⟨en, w, s, pend, r, po⟩ => by
    obtain ⟨rv, s1, e1, po⟩ := Post.bind po
    refine tD.first r e1 fun v H1 w1 r1 => ?_
    cases e2 : tru s1 rv with
    | none => rw [e2] at po; exact po.elim
    | some k =>
      rw [e2] at po
      refine ⟨k, r1.tru (rv := rv) (by simp) e2, ?_⟩
      cases k with
      | true => exact ⟨en, w1, s1, pend, r1.drop, po⟩
      | false => exact po v H1 w1 r1
theorem de_or (ha : PE X a (tD X.K ga)) (hb : PE X (.BoolOp .Or (b :: rest) pos) (tD X.K gb)) : PE X (.BoolOp .Or (a :: b :: rest) pos) (tD X.K (gOr ga gb)) :=
  PE.imp (pe_orT ha hb) fun σ H Q ⟨en, w, s, pend, r, po⟩ => by
    obtain ⟨rv, s1, e1, po⟩ := Post.bind po
    refine tD.first r e1 fun v H1 w1 r1 => ?_
    cases e2 : tru s1 rv with
    | none => rw [e2] at po; exact po.elim
    | some k =>
      rw [e2] at po
      refine ⟨k, r1.tru (rv := rv) (by simp) e2, ?_⟩
      cases k with
      | true => exact po v H1 w1 r1
      | false => exact ⟨en, w1, s1, pend, r1.drop, po⟩
theorem de_one {op : BoolOp} (ha : PE X a (tD X.K ga)) : PE X (.BoolOp op [a] pos) (tD X.K ga) := pe_one ha
theorem de_not (ha : PE X a (tD X.K ga)) : PE X (.UnaryOp .Not a pos) (tD X.K (gNot ga)) :=
  PE.imp (pe_notT ha) fun σ H Q ⟨en, w, s, pend, r, po⟩ => by
    obtain ⟨rv, s1, e1, po⟩ := Post.bind po
    refine tD.first r e1 fun v H1 w1 r1 => ?_
    cases e2 : tru s1 rv with
    | none => rw [e2] at po; exact po.elim
    | some k =>
      rw [e2] at po
      exact ⟨k, r1.tru (rv := rv) (by simp) e2, po _ H1 w1 (r1.drop.pushD rfl)⟩
theorem de_if (hc : PT X c (tDt X.K ta)) (ha : PE X a (tD X.K ga)) (hb : PE X b (tD X.K gb)) : PE X (.IfExp c a b pos) (tD X.K (gIf ta ga gb)) :=
  PE.imp (pe_ifExp hc ha hb) fun σ H Q ⟨en, w, s, pend, r, po⟩ => by
    obtain ⟨k, s1, e1, po⟩ := Post.bind po
    refine tDt.first r e1 fun H1 w1 r1 => ?_
    cases k with
    | true => exact ⟨en, w1, s1, pend, r1, po⟩
    | false => exact ⟨en, w1, s1, pend, r1, po⟩
end
end PL
set_option Elab.async false
set_option linter.all false
set_option maxRecDepth 100000
set_option autoImplicit false
namespace PL
open PySem PySem.Spec PyProof.Rows L2
section
variable {K : PySem.W.Frag} {en : En} {w : Lg} {s : S} {σ : L2.St} {H : Hp} {pend : List (V × RV)}
/-! ints -/
def pI (C : Int → Int → Bool) (g : Int → Int → D) (s : S) (x y : RV) : R RV := match dat s x, dat s y with
  | some (.int i), some (.int j) => if C i j then .ok (.tr (.fz (g i j))) s else .stuck
  | _, _ => .stuck
theorem opS_I {C : Int → Int → Bool} {Cp : Int → Int → Prop} {g : Int → Int → V} {gd : Int → Int → D} (hC : ∀ i j, C i j = true → Cp i j) (hr : ∀ i j (w : Lg) (H : Hp), Rep K w H true (g i j) (gd i j)) : OpS K (rI Cp g) (pI C gd) := by
  intro en w s σ H pend x y rx ry Q r po
  unfold pI at po
  split at po
  · rename_i i j e1 e2
    split at po
    · rename_i hc
      have h1 : x = .int i := r.dat_ (v := x) (rv := rx) (by simp) e1
      have h2 : y = .int j := r.dat_ (v := y) (rv := ry) (by simp) e2
      exact ⟨i, j, h1, h2, hC i j hc, po _ H w (r.drop2.pushD (hr i j w H))⟩
    · exact po.elim
  · exact po.elim
theorem opS_I0 {g : Int → Int → V} {gd : Int → Int → D} (hr : ∀ i j (w : Lg) (H : Hp), Rep K w H true (g i j) (gd i j)) : OpS K (rI0 g) (pI (fun _ _ => true) gd) := by
  intro en w s σ H pend x y rx ry Q r po
  obtain ⟨i, j, h1, h2, _, h3⟩ := opS_I (C := fun _ _ => true) (Cp := fun _ _ => True) (fun _ _ _ => True.intro) hr en w s σ H pend x y rx ry Q r po
  exact ⟨i, j, h1, h2, h3⟩
abbrev pSub := pI (fun _ _ => true) fun i j => .int (i - j)
def cMul (i j : Int) : Bool := decide (i.natAbs.log2 + j.natAbs.log2 < 1000000)
abbrev pMulI := pI cMul fun i j => .int (i * j)
def cDiv (i j : Int) : Bool := decide (0 < j ∧ j.natAbs.log2 < 9000)
abbrev pDiv := pI cDiv fun i j => .int (i / j)
abbrev pMod := pI (fun _ j => decide (0 < j)) fun i j => .int (i % j)
def cPow (i j : Int) : Bool := decide (0 ≤ j ∧ j ≤ 1000000 ∧ i.natAbs < 2 ^ 64)
abbrev pPow := pI cPow fun i j => .int (i ^ j.toNat)
abbrev pLtI := pI (fun _ _ => true) fun i j => .bl (decide (i < j))
abbrev pLeI := pI (fun _ _ => true) fun i j => .bl (decide (i ≤ j))
abbrev pGtI := pI (fun _ _ => true) fun i j => .bl (decide (j < i))
abbrev pGeI := pI (fun _ _ => true) fun i j => .bl (decide (j ≤ i))
theorem opS_sub : OpS K (rI0 fun i j => .int (i - j)) pSub := opS_I0 fun _ _ _ _ => rfl
theorem opS_mulI : OpS K (rI CMulW fun i j => .int (i * j)) pMulI := opS_I (fun i j h => of_decide_eq_true (p := i.natAbs.log2 + j.natAbs.log2 < 1000000) h) fun _ _ _ _ => rfl
theorem opS_div : OpS K (rI CDivW fun i j => .int (i / j)) pDiv := opS_I (fun i j h => of_decide_eq_true (p := 0 < j ∧ j.natAbs.log2 < 9000) h) fun _ _ _ _ => rfl
theorem opS_mod : OpS K (rI (fun _ j => 0 < j) fun i j => .int (i % j)) pMod := opS_I (fun i j h => of_decide_eq_true h) fun _ _ _ _ => rfl
theorem opS_pow : OpS K (rI CPow fun i j => .int (i ^ j.toNat)) pPow := opS_I (fun i j h => of_decide_eq_true (p := 0 ≤ j ∧ j ≤ 1000000 ∧ i.natAbs < 2 ^ 64) h) fun _ _ _ _ => rfl
theorem opS_ltI : OpS K (rI0 fun i j => .bl (decide (i < j))) pLtI := opS_I0 fun _ _ _ _ => rfl
theorem opS_leI : OpS K (rI0 fun i j => .bl (decide (i ≤ j))) pLeI := opS_I0 fun _ _ _ _ => rfl
theorem opS_gtI : OpS K (rI0 fun i j => .bl (decide (j < i))) pGtI := opS_I0 fun _ _ _ _ => rfl
theorem opS_geI : OpS K (rI0 fun i j => .bl (decide (j ≤ i))) pGeI := opS_I0 fun _ _ _ _ => rfl
def pNeg (s : S) (x : RV) : R RV := match dat s x with
  | some (.int i) => .ok (.tr (.fz (.int (-i)))) s
  | _ => .stuck
theorem unS_neg : UnS K (rU fun i => .int (-i)) pNeg := by
  intro en w s σ H pend x rx Q r po
  unfold pNeg at po
  split at po
  · rename_i i e1
    exact ⟨i, r.dat_ (v := x) (rv := rx) (by simp) e1, po _ H w (r.drop.pushD rfl)⟩
  · exact po.elim
/-! + -/
def rAdd4 (K : PySem.W.Frag) : R2 := fun x y H Q => rI0 (fun i j => .int (i + j)) x y H Q ∨ (∃ i j, x = .str i ∧ y = .str j ∧ i.length + j.length ≤ sizeLine ∧ Q (.str (i ++ j)) H) ∨ rCatA K x y H Q ∨ rCat x y H Q
theorem op_add4 {X : Cx} : OpR X (binaryOp .Add) (rAdd4 X.K) := op_add.or (op_add_str.or (op_catA.or op_cat))
def pAdd (s : S) (x y : RV) : R RV := match dat s x, dat s y with
  | some (.int i), some (.int j) => .ok (.tr (.fz (.int (i + j)))) s
  | some (.str a), some (.str b) => if a.length + b.length ≤ sizeLine then .ok (.tr (.fz (.str (a ++ b)))) s else .stuck
  | some (.tup a), some (.tup b) => if a.length + b.length ≤ sizeLine then .ok (.tr (.fz (.tup (a ++ b)))) s else .stuck
  | _, _ => match lsd s x, lsd s y with
    | some a, some b => if a.length + b.length ≤ sizeLine then .ok (.tr (.lst ((a ++ b).map .fz))) s else .stuck
    | _, _ => .stuck
theorem str_len_app (a b : Str) : (a ++ b).length = a.length + b.length := by
  show (a.cps ++ b.cps).size = _
  rw [Array.size_append]; rfl
theorem opS_add : OpS K (rAdd4 K) pAdd := by
  intro en w s σ H pend x y rx ry Q r po
  unfold pAdd at po
  split at po
  · rename_i i j e1 e2
    exact .inl ⟨i, j, r.dat_ (v := x) (rv := rx) (by simp) e1, r.dat_ (v := y) (rv := ry) (by simp) e2, po _ H w (r.drop2.pushD rfl)⟩
  · rename_i a b e1 e2
    split at po
    · rename_i hl
      have h1 := r.dat_ (v := x) (rv := rx) (by simp) e1
      have h2 := r.dat_ (v := y) (rv := ry) (by simp) e2
      exact .inr (.inl ⟨a, b, h1.1, h2.1, hl, po _ H w (r.drop2.pushD ⟨rfl, by rw [str_len_app]; exact hl⟩)⟩)
    · exact po.elim
  · rename_i a b e1 e2
    split at po
    · rename_i hl
      obtain ⟨p1, xs, rfl, h1, k1⟩ := r.dat_ (v := x) (rv := rx) (by simp) e1
      obtain ⟨p2, ys, rfl, h2, k2⟩ := r.dat_ (v := y) (rv := ry) (by simp) e2
      refine .inr (.inr (.inl ⟨p1, p2, xs, ys, rfl, rfl, h1, h2, by rw [k1.len, k2.len]; exact hl, fun e => ?_, fun e1 e2 => ?_, fun e1 e2 p n => ?_⟩))
      · have ea : a = [] := by have := k1.len; rw [e] at this; exact List.length_eq_zero_iff.mp this.symm
        refine po _ H w (r.drop2.pushD ?_)
        rw [ea]; exact ⟨p2, ys, rfl, h2, k2⟩
      · have eb : b = [] := by have := k2.len; rw [e2] at this; exact List.length_eq_zero_iff.mp this.symm
        refine po _ H w (r.drop2.pushD ?_)
        rw [eb, List.append_nil]; exact ⟨p1, xs, rfl, h1, k1⟩
      · have m := r.monoExt (upd_ext (o := .tup (xs ++ ys)) n)
        exact po _ _ w (r.drop2.newData n ⟨p, xs ++ ys, rfl, SqT.of upd_same, (k1.mono m (Lg.le_refl w)).app (k2.mono m (Lg.le_refl w))⟩)
    · exact po.elim
  · split at po
    · rename_i a b e1 e2
      split at po
      · rename_i hl
        obtain ⟨p1, xs, rfl, h1, k1⟩ := r.lsd_ (v := x) (rv := rx) (by simp) e1
        obtain ⟨p2, ys, rfl, h2, k2⟩ := r.lsd_ (v := y) (rv := ry) (by simp) e2
        exact .inr (.inr (.inr ⟨p1, p2, xs, ys, rfl, rfl, h1, h2, by rw [k1.len, k2.len]; exact hl, fun p n => po _ _ w (r.drop2.newList n (k1.app k2))⟩))
      · exact po.elim
    · exact po.elim
/-! == and in, of data -/
def pEq (s : S) (x y : RV) : R RV := match rd s x, rd s y with
  | some a, some b => match dEq a b with
    | some k => .ok (.tr (.fz (.bl k))) s
    | none => .stuck
  | _, _ => .stuck
def pNe (s : S) (x y : RV) : R RV := match rd s x, rd s y with
  | some a, some b => match dEq a b with
    | some k => .ok (.tr (.fz (.bl (!k)))) s
    | none => .stuck
  | _, _ => .stuck
theorem dEq_some {a b : D} {k : Bool} (h : dEq a b = some k) : ∃ p q, toPy a = some p ∧ toPy b = some q ∧ SeqAt.shaped p = true ∧ SeqAt.shaped q = true ∧ k = PyData.eqv p q := by
  unfold dEq at h
  split at h
  · rename_i p q e1 e2
    split at h
    · rename_i hs
      cases h
      obtain ⟨h1, h2⟩ := (Bool.and_eq_true _ _).mp hs
      exact ⟨p, q, e1, e2, h1, h2, rfl⟩
    · cases h
  · cases h
theorem opS_eq : OpS K (rEqD K) pEq := by
  intro en w s σ H pend x y rx ry Q r po
  unfold pEq at po
  split at po
  · rename_i a b e1 e2
    split at po
    · rename_i k e3
      obtain ⟨p, q, h1, h2, h3, h4, rfl⟩ := dEq_some e3
      exact ⟨p, q, (r.read (v := x) (rv := rx) (by simp) e1).dp h1, (r.read (v := y) (rv := ry) (by simp) e2).dp h2, h3, h4, po _ H w (r.drop2.pushD rfl)⟩
    · exact po.elim
  · exact po.elim
theorem opS_ne : OpS K (rNeD K) pNe := by
  intro en w s σ H pend x y rx ry Q r po
  unfold pNe at po
  split at po
  · rename_i a b e1 e2
    split at po
    · rename_i k e3
      obtain ⟨p, q, h1, h2, h3, h4, rfl⟩ := dEq_some e3
      exact ⟨p, q, (r.read (v := x) (rv := rx) (by simp) e1).dp h1, (r.read (v := y) (rv := ry) (by simp) e2).dp h2, h3, h4, po _ H w (r.drop2.pushD rfl)⟩
    · exact po.elim
  · exact po.elim
def rInT (K : PySem.W.Frag) (neg : Bool) : R2 := fun x y H Q => ∃ d ds, Dp K H x d ∧ Dp K H y (.tuple ds) ∧ SeqAt.shaped d = true ∧ SeqAt.shaped (.list ds) = true ∧ Q (.bl (if neg then !(ds.any fun z => PyData.eqv z d) else ds.any fun z => PyData.eqv z d)) H
theorem op_inT {X : Cx} (hu : X.A.units + 65 < cLine) : OpR X (compareOp .In) (rInT X.K false) := by
  intro pins s σ H x y v u Q I rx ry h
  obtain ⟨d, ds, hd, he, sd, se, q⟩ := h
  obtain ⟨as, r1⟩ := Dp.reads I d x v hd rx
  obtain ⟨bs, r2⟩ := Dp.reads I (.tuple ds) y u he ry
  exact SeqAt.in_tuple_reads r2 r1 (SeqAt.canLay_of_shaped se) (SeqAt.canLay_of_shaped sd) (room_in_shaped sd hu) ⟨.bl _, H, I, rfl, q⟩
theorem op_notInT {X : Cx} (hu : X.A.units + 65 < cLine) : OpR X (compareOp .NotIn) (rInT X.K true) := by
  intro pins s σ H x y v u Q I rx ry h
  obtain ⟨d, ds, hd, he, sd, se, q⟩ := h
  obtain ⟨as, r1⟩ := Dp.reads I d x v hd rx
  obtain ⟨bs, r2⟩ := Dp.reads I (.tuple ds) y u he ry
  exact SeqAt.notIn_tuple_reads r2 r1 (SeqAt.canLay_of_shaped se) (SeqAt.canLay_of_shaped sd) (room_in_shaped sd hu) ⟨.bl _, H, I, rfl, q⟩
def rIn3 (K : PySem.W.Frag) : R2 := fun x y H Q => rInD K x y H Q ∨ rInT K false x y H Q ∨ (∃ i j, x = .str i ∧ y = .str j ∧ Q (.bl (!(Builtin.Str.occurrences j i 0 j.length 1).isEmpty)) H)
theorem op_in3 {X : Cx} (hu : X.A.units + 65 < cLine) : OpR X (compareOp .In) (rIn3 X.K) := (op_inD hu).or ((op_inT hu).or op_in_str)
def rNotIn3 (K : PySem.W.Frag) : R2 := fun x y H Q => rNotInD K x y H Q ∨ rInT K true x y H Q ∨ (∃ i j, x = .str i ∧ y = .str j ∧ Q (.bl (!(!(Builtin.Str.occurrences j i 0 j.length 1).isEmpty))) H)
theorem op_notIn3 {X : Cx} (hu : X.A.units + 65 < cLine) : OpR X (compareOp .NotIn) (rNotIn3 X.K) := (op_notInD hu).or ((op_notInT hu).or op_notin_str)
/-- x in y: of a list, a tuple, a text -/
def inD (s : S) (x y : RV) : Option Bool := match rd s y with
  | some (.lst ds) => (rd s x).bind fun d => dIn d ds
  | some (.fl ds) => (rd s x).bind fun d => dIn d ds
  | some (.tup ds) => (rd s x).bind fun d => dIn d ds
  | some (.str j) => match dat s x with
    | some (.str i) => some (!(Builtin.Str.occurrences j i 0 j.length 1).isEmpty)
    | _ => none
  | _ => none
def pIn (s : S) (x y : RV) : R RV := match inD s x y with
  | some k => .ok (.tr (.fz (.bl k))) s
  | none => .stuck
def pNotIn (s : S) (x y : RV) : R RV := match inD s x y with
  | some k => .ok (.tr (.fz (.bl (!k)))) s
  | none => .stuck
theorem dIn_some {d : D} {ds : List D} {k : Bool} (h : dIn d ds = some k) : ∃ p ps, toPy d = some p ∧ toPys ds = some ps ∧ SeqAt.shaped p = true ∧ SeqAt.shaped (.list ps) = true ∧ k = ps.any fun z => PyData.eqv z p := by
  unfold dIn at h
  split at h
  · rename_i p q e1 e2
    split at h
    · rename_i hs
      cases h
      obtain ⟨h1, h2⟩ := (Bool.and_eq_true _ _).mp hs
      exact ⟨p, q, e1, e2, h1, h2, rfl⟩
    · cases h
  · cases h
theorem inD_ok (r : RS K en w s σ H pend) {x y : V} {rx ry : RV} {k : Bool} (hx : (x, rx) ∈ pend) (hy : (y, ry) ∈ pend) (e : inD s rx ry = some k) :
    (∃ d ds, Dp K H x d ∧ Dp K H y (.list ds) ∧ SeqAt.shaped d = true ∧ SeqAt.shaped (.list ds) = true ∧ k = ds.any fun z => PyData.eqv z d) ∨
    (∃ d ds, Dp K H x d ∧ Dp K H y (.tuple ds) ∧ SeqAt.shaped d = true ∧ SeqAt.shaped (.list ds) = true ∧ k = ds.any fun z => PyData.eqv z d) ∨
    (∃ i j, x = .str i ∧ y = .str j ∧ k = !(Builtin.Str.occurrences j i 0 j.length 1).isEmpty) := by
  unfold inD at e
  have go : ∀ {ds : List D}, ((rd s rx).bind fun d => dIn d ds) = some k → ∃ d p ps, rd s rx = some d ∧ toPy d = some p ∧ toPys ds = some ps ∧ SeqAt.shaped p = true ∧ SeqAt.shaped (.list ps) = true ∧ k = ps.any fun z => PyData.eqv z p := fun {ds} h => by
    cases q : rd s rx with
    | none => rw [q] at h; cases h
    | some d =>
      rw [q] at h
      obtain ⟨p, ps, h1, h2, h3, h4, h5⟩ := dIn_some h
      exact ⟨d, p, ps, rfl, h1, h2, h3, h4, h5⟩
  split at e
  · rename_i ds q
    obtain ⟨d, p, ps, e1, h1, h2, h3, h4, h5⟩ := go e
    exact .inl ⟨p, ps, (r.read hx e1).dp h1, (r.read hy q).dp (by rw [toPy, h2]; rfl), h3, h4, h5⟩
  · rename_i ds q
    obtain ⟨d, p, ps, e1, h1, h2, h3, h4, h5⟩ := go e
    exact .inl ⟨p, ps, (r.read hx e1).dp h1, (r.read hy q).dp (by rw [toPy, h2]; rfl), h3, h4, h5⟩
  · rename_i ds q
    obtain ⟨d, p, ps, e1, h1, h2, h3, h4, h5⟩ := go e
    exact .inr (.inl ⟨p, ps, (r.read hx e1).dp h1, (r.read hy q).dp (by rw [toPy, h2]; rfl), h3, h4, h5⟩)
  · rename_i j q
    split at e
    · rename_i i q2
      cases e
      exact .inr (.inr ⟨i, j, (r.dat_ hx q2).1, (r.read hy q).1, rfl⟩)
    · cases e
  · cases e
theorem opS_in : OpS K (rIn3 K) pIn := by
  intro en w s σ H pend x y rx ry Q r po
  unfold pIn at po
  split at po
  · rename_i k e
    have q := po _ H w (r.drop2.pushD (v := .bl k) rfl)
    rcases inD_ok r (x := x) (y := y) (by simp) (by simp) e with ⟨d, ds, h1, h2, h3, h4, rfl⟩ | ⟨d, ds, h1, h2, h3, h4, rfl⟩ | ⟨i, j, h1, h2, rfl⟩
    · exact .inl ⟨d, ds, h1, h2, h3, h4, q⟩
    · exact .inr (.inl ⟨d, ds, h1, h2, h3, h4, q⟩)
    · exact .inr (.inr ⟨i, j, h1, h2, q⟩)
  · exact po.elim
theorem opS_notIn : OpS K (rNotIn3 K) pNotIn := by
  intro en w s σ H pend x y rx ry Q r po
  unfold pNotIn at po
  split at po
  · rename_i k e
    have q := po _ H w (r.drop2.pushD (v := .bl (!k)) rfl)
    rcases inD_ok r (x := x) (y := y) (by simp) (by simp) e with ⟨d, ds, h1, h2, h3, h4, rfl⟩ | ⟨d, ds, h1, h2, h3, h4, rfl⟩ | ⟨i, j, h1, h2, rfl⟩
    · exact .inl ⟨d, ds, h1, h2, h3, h4, q⟩
    · exact .inr (.inl ⟨d, ds, h1, h2, h3, h4, q⟩)
    · exact .inr (.inr ⟨i, j, h1, h2, q⟩)
  · exact po.elim
/-! is None, is True -/
def isNon (s : S) (x : RV) : Option Bool := match look s x with
  | .fz .non => some true
  | .fz _ => some false
  | .lst _ => some false
  | .dct _ _ => some false
  | .hole => none
theorem isNon_ok (r : RS K en w s σ H pend) {x : V} {rx : RV} {k : Bool} (hx : (x, rx) ∈ pend) (e : isNon s rx = some k) : decide (x = .non) = k := by
  obtain ⟨F, hF⟩ := r.tree hx
  have hF : RepT K w H x (look s rx) F := hF
  unfold isNon at e
  split at e <;> rename_i q
  · cases e; rw [q] at hF; rw [show x = .non from hF.1]; rfl
  · rename_i d hd
    cases e
    rw [q] at hF
    have h := hF.1
    cases d with
    | non => exact absurd rfl hd
    | bl b => rw [show x = .bl b from h]; rfl
    | int i => rw [show x = .int i from h]; rfl
    | str i => rw [show x = .str i from h.1]; rfl
    | tup ds => obtain ⟨a, _, h, _⟩ := h; rw [h]; rfl
    | lst ds => obtain ⟨a, _, h, _⟩ := h; rw [h]; rfl
    | fl ds => obtain ⟨a, _, h, _⟩ := h; rw [h]; rfl
    | obj n => obtain ⟨a, h, _⟩ := h; rw [h]; rfl
    | fn z => rw [show x = .ref _ from h]; rfl
  · cases e; rw [q] at hF; obtain ⟨a, _, _, h, _⟩ := hF; rw [h]; rfl
  · cases e; rw [q] at hF; obtain ⟨a, _, _, h, _⟩ := hF; rw [h]; rfl
  · cases e
def pIsN (s : S) (x y : RV) : R RV := match isNon s x, dat s y with
  | some k, some .non => .ok (.tr (.fz (.bl k))) s
  | _, _ => .stuck
def pNotN (s : S) (x y : RV) : R RV := match isNon s x, dat s y with
  | some k, some .non => .ok (.tr (.fz (.bl (!k)))) s
  | _, _ => .stuck
theorem opS_isN : OpS K (fun x y H Q => y = .non ∧ Q (.bl (decide (x = .non))) H) pIsN := by
  intro en w s σ H pend x y rx ry Q r po
  unfold pIsN at po
  split at po
  · rename_i k e1 e2
    have h1 := isNon_ok r (x := x) (by simp) e1
    refine ⟨r.dat_ (v := y) (rv := ry) (by simp) e2, ?_⟩
    rw [h1]
    exact po _ H w (r.drop2.pushD rfl)
  · exact po.elim
theorem opS_notN : OpS K (fun x y H Q => y = .non ∧ Q (.bl (!decide (x = .non))) H) pNotN := by
  intro en w s σ H pend x y rx ry Q r po
  unfold pNotN at po
  split at po
  · rename_i k e1 e2
    have h1 := isNon_ok r (x := x) (by simp) e1
    refine ⟨r.dat_ (v := y) (rv := ry) (by simp) e2, ?_⟩
    rw [h1]
    exact po _ H w (r.drop2.pushD rfl)
  · exact po.elim
def pIsB (s : S) (x y : RV) : R RV := match dat s x, dat s y with
  | some (.bl a), some (.bl b) => .ok (.tr (.fz (.bl (decide (a = b))))) s
  | _, _ => .stuck
def pNotB (s : S) (x y : RV) : R RV := match dat s x, dat s y with
  | some (.bl a), some (.bl b) => .ok (.tr (.fz (.bl (!decide (a = b))))) s
  | _, _ => .stuck
theorem opS_isB : OpS K rIsB pIsB := by
  intro en w s σ H pend x y rx ry Q r po
  unfold pIsB at po
  split at po
  · rename_i a b e1 e2
    exact ⟨a, b, r.dat_ (v := x) (rv := rx) (by simp) e1, r.dat_ (v := y) (rv := ry) (by simp) e2, po _ H w (r.drop2.pushD rfl)⟩
  · exact po.elim
theorem opS_notB : OpS K rNotB pNotB := by
  intro en w s σ H pend x y rx ry Q r po
  unfold pNotB at po
  split at po
  · rename_i a b e1 e2
    exact ⟨a, b, r.dat_ (v := x) (rv := rx) (by simp) e1, r.dat_ (v := y) (rv := ry) (by simp) e2, po _ H w (r.drop2.pushD rfl)⟩
  · exact po.elim
/-! x[i] -/
def pIx (s : S) (x y : RV) : R RV := match dat s y with
  | some (.int i) => match look s x with
    | .fz (.tup ds) => match atI ds i with
      | some d => .ok (.tr (.fz d)) s
      | none => .stuck
    | .fz (.lst ds) => match atI ds i with
      | some d => .ok (.tr (.fz d)) s
      | none => .stuck
    | .fz (.fl ds) => match atI ds i with
      | some d => .ok (.tr (.fz d)) s
      | none => .stuck
    | .lst ts => match atI ts i with
      | some (.fz d) => .ok (.tr (.fz d)) s
      | _ => .stuck
    | .fz (.str z) => match atI z.cps.toList i with
      | some c => .ok (.tr (.fz (.str ⟨#[c]⟩))) s
      | none => .stuck
    | _ => .stuck
  | _ => .stuck
theorem Reps.atI {w : Lg} {H : Hp} {b : Bool} {vs : List V} {ds : List D} {i : Int} {d : D} (h : Reps K w H b vs ds) (e : L2.atI ds i = some d) : ∃ v, L2.atI vs i = some v ∧ Rep K w H b v d := by
  unfold L2.atI at e ⊢
  rw [h.len]
  cases q : ixN ds.length i with
  | none => rw [q] at e; cases e
  | some j =>
    rw [q] at e
    obtain ⟨v, e1, r⟩ := h.get (show ds[j]? = some d from e)
    exact ⟨v, e1, r⟩
theorem RepTs.atI {w : Lg} {H : Hp} {vs : List V} {ts : List T} {F : List Addr} {i : Int} {d : D} (h : RepTs K w H vs ts F) (e : L2.atI ts i = some (.fz d)) : ∃ v, L2.atI vs i = some v ∧ Rep K w H true v d := by
  unfold L2.atI at e ⊢
  rw [h.len]
  cases q : ixN ts.length i with
  | none => rw [q] at e; cases e
  | some j =>
    rw [q] at e
    obtain ⟨v, _, _, _, e1, r, _⟩ := RepTs.at h (show ts[j]? = some (.fz d) from e)
    exact ⟨v, e1, r.1⟩
theorem opS_ix : OpS K (rIx K) pIx := by
  intro en w s σ H pend x y rx ry Q r po
  obtain ⟨F, hF⟩ := r.tree (p := (x, rx)) (by simp)
  have hF : RepT K w H x (look s rx) F := hF
  unfold pIx at po
  split at po
  · rename_i i e2
    have h2 : y = .int i := r.dat_ (v := y) (rv := ry) (by simp) e2
    split at po <;> rename_i q
    · rw [q] at hF
      split at po
      · rename_i ds d e3
        obtain ⟨⟨a, vs, e, k, rr⟩, _⟩ := hF
        obtain ⟨v, e4, rv⟩ := rr.atI e3
        exact .inr (.inl ⟨a, vs, i, v, e, h2, k, e4, po _ H w (r.drop2.pushD rv)⟩)
      · exact po.elim
    · rw [q] at hF
      split at po
      · rename_i ds d e3
        obtain ⟨⟨a, vs, e, k, _, rr⟩, _⟩ := hF
        obtain ⟨v, e4, rv⟩ := rr.atI e3
        exact .inl ⟨a, vs, i, v, e, h2, SqL.of k, e4, po _ H w (r.drop2.pushD rv)⟩
      · exact po.elim
    · rw [q] at hF
      split at po
      · rename_i ds d e3
        obtain ⟨⟨a, vs, e, k, rr⟩, _⟩ := hF
        obtain ⟨v, e4, rv⟩ := rr.atI e3
        exact .inl ⟨a, vs, i, v, e, h2, k.sq, e4, po _ H w (r.drop2.pushD rv)⟩
      · exact po.elim
    · rw [q] at hF
      split at po
      · rename_i ts d e3
        obtain ⟨a, vs, F', e, k, rr, _⟩ := hF
        obtain ⟨v, e4, rv⟩ := rr.atI e3
        exact .inl ⟨a, vs, i, v, e, h2, SqL.of k, e4, po _ H w (r.drop2.pushD rv)⟩
      · exact po.elim
    · rw [q] at hF
      split at po
      · rename_i c e3
        obtain ⟨⟨e, hz⟩, _⟩ := hF
        refine .inr (.inr ⟨_, i, c, e, h2, hz, e3, po _ H w (r.drop2.pushD ⟨rfl, ?_⟩)⟩)
        show 1 ≤ sizeLine
        decide
      · exact po.elim
    · exact po.elim
  · exact po.elim
end
end PL
set_option Elab.async false
set_option linter.all false
set_option maxRecDepth 100000
set_option autoImplicit false
namespace PL
open PySem PySem.Spec PyProof.Rows L2
/-! slices -/
abbrev GO := S → R (Option Int)
def PostO (K : PySem.W.Frag) (en : En) (σ : L2.St) (pend : List (V × RV)) (Q : Option Int → Hp → Prop) : R (Option Int) → Prop
  | .ok o s => ∀ H w, RS K en w s σ H pend → Q o H
  | .exc _ _ => False
  | .stuck => False
def tDo (K : PySem.W.Frag) (g : GO) : TO := fun σ H Q => ∃ en w s pend, RS K en w s σ H pend ∧ PostO K en σ pend Q (g s)
def oNone : GO := fun s => .ok none s
def intv (rv : RV) (s : S) : R (Option Int) := match dat s rv with
  | some (.int i) => .ok (some i) s
  | _ => .stuck
def oSome (g : G) : GO := fun s => (g s).bind intv
section
variable {X : Cx} {e : Expr} {ga : G} {lo hi : Option Expr} {gl gh : GO} {pos p2 : Pos}
theorem PostO.bind {K : PySem.W.Frag} {en : En} {σ : L2.St} {pend : List (V × RV)} {Q : Option Int → Hp → Prop} {α : Type} {r : R α} {f : α → S → R (Option Int)} (h : PostO K en σ pend Q (r.bind f)) : ∃ a s, r = .ok a s ∧ PostO K en σ pend Q (f a s) := by
  cases r with
  | ok a s => exact ⟨a, s, rfl, h⟩
  | exc x s => exact h.elim
  | stuck => exact h.elim
theorem PO.imp {t t' : TO} {e : Option Expr} (h : PO X e t) (k : ∀ σ H Q, t' σ H Q → t σ H Q) : PO X e t' := ⟨fun pins s σ H Q I q => h.run pins s σ H Q I (k _ _ _ q)⟩
theorem do_none : PO X none (tDo X.K oNone) := PO.imp po_none fun σ H Q ⟨en, w, s, pend, r, po⟩ => po H w r
theorem do_some (h : PE X e (tD X.K ga)) : PO X (some e) (tDo X.K (oSome ga)) := PO.imp (po_some h) fun σ H Q ⟨en, w, s, pend, r, po⟩ => by
  obtain ⟨rv, s1, e1, po⟩ := PostO.bind po
  refine tD.first r e1 fun v H1 w1 r1 => ?_
  unfold intv at po
  split at po
  · rename_i i e2
    exact ⟨i, r1.dat_ (v := v) (rv := rv) (by simp) e2, po H1 w1 r1.drop⟩
  · exact po.elim
def cutD {α : Type} (xs : List α) (lo hi : Option Int) : List α := (xs.drop (HT.sIx xs.length 0 lo)).take (HT.sIx xs.length xs.length hi - HT.sIx xs.length 0 lo)
theorem cutV_eq (xs : List V) (lo hi : Option Int) : cutV xs lo hi = cutD xs lo hi := rfl
theorem Reps.cut {K : PySem.W.Frag} {w : Lg} {H : Hp} {b : Bool} {vs : List V} {ds : List D} (lo hi : Option Int) (h : Reps K w H b vs ds) : Reps K w H b (cutD vs lo hi) (cutD ds lo hi) := by
  unfold cutD
  rw [h.len]
  exact (h.drop _).take _
theorem cutD_whole {α : Type} {xs : List α} {lo hi : Option Int} (h : HT.sIx xs.length 0 lo = 0 ∧ HT.sIx xs.length xs.length hi = xs.length) : cutD xs lo hi = xs := by
  unfold cutD
  rw [h.1, h.2]
  simp
def rSl3 (K : PySem.W.Frag) : V → Option Int → Option Int → Hp → VK → Prop := fun x lo hi H Q => rSlA K x lo hi H Q ∨ rSlL K x lo hi H Q ∨ rSlS x lo hi H Q
theorem sl_3 : SlR X (rSl3 X.K) := sl_tupA.or (sl_list.or sl_str)
def pSl (s : S) (x : RV) (lo hi : Option Int) : R RV := match dat s x with
  | some (.tup ds) => .ok (.tr (.fz (.tup (cutD ds lo hi)))) s
  | some (.str z) => .ok (.tr (.fz (.str (cutS z lo hi)))) s
  | some (.fl ds) => .ok (.tr (.lst ((cutD ds lo hi).map .fz))) s
  | _ => match lsd s x with
    | some ds => .ok (.tr (.lst ((cutD ds lo hi).map .fz))) s
    | none => .stuck
def gSl (ga : G) (gl gh : GO) : G := fun s => (ga s).bind fun x s1 => (gl s1).bind fun lo s2 => (gh s2).bind fun hi s3 => pSl s3 x lo hi
theorem cutS_len (z : Str) (lo hi : Option Int) : (cutS z lo hi).length ≤ z.length := by
  unfold cutS
  show (Array.size _) ≤ _
  simp only [List.size_toArray, List.length_take, List.length_drop, Array.length_toList]
  show _ ≤ z.cps.size
  omega
theorem de_slice (he : PE X e (tD X.K ga)) (hl : PO X lo (tDo X.K gl)) (hh : PO X hi (tDo X.K gh)) : PE X (.Subscript e (.Slice lo hi none p2) pos) (tD X.K (gSl ga gl gh)) :=
  PE.imp (pe_slice sl_3 he hl hh) fun σ H Q ⟨en, w, s, pend, r, po⟩ => by
    obtain ⟨rx, s1, e1, po⟩ := Post.bind po
    obtain ⟨lo, s2, e2, po⟩ := Post.bind po
    obtain ⟨hi, s3, e3, po⟩ := Post.bind po
    refine tD.first r e1 fun x H1 w1 r1 => ⟨en, w1, s1, _, r1, ?_⟩
    rw [e2]
    refine fun H2 w2 r2 => ⟨en, w2, s2, _, r2, ?_⟩
    rw [e3]
    intro H3 w3 r3
    have lists : ∀ {ds : List D}, Post X.K en σ pend Q (.ok (.tr (.lst ((cutD ds lo hi).map .fz))) s3) → (∃ a vs, x = .ref a ∧ SqL X.K H3 a vs ∧ Reps X.K w3 H3 true vs ds) → rSl3 X.K x lo hi H3 Q := fun {ds} po ⟨a, vs, h1, h2, h3⟩ =>
      .inr (.inl ⟨a, vs, h1, h2, fun p n => po _ _ w3 (r3.drop.newList n (h3.cut lo hi))⟩)
    unfold pSl at po
    split at po
    · rename_i ds e4
      obtain ⟨a, vs, rfl, h1, h2⟩ := r3.dat_ (v := x) (rv := rx) (by simp) e4
      refine .inl ⟨a, vs, rfl, h1, fun hw => ?_, fun hw p n => ?_⟩
      · rw [h2.len] at hw
        refine po _ H3 w3 (r3.drop.pushD ?_)
        rw [cutD_whole hw]
        exact ⟨a, vs, rfl, h1, h2⟩
      · have m := r3.monoExt (upd_ext (o := .tup (cutV vs lo hi)) n)
        exact po _ _ w3 (r3.drop.newData n ⟨p, _, rfl, SqT.of upd_same, (h2.mono m (Lg.le_refl w3)).cut lo hi⟩)
    · rename_i z e4
      have h := r3.dat_ (v := x) (rv := rx) (by simp) e4
      exact .inr (.inr ⟨z, h.1, h.2, po _ H3 w3 (r3.drop.pushD ⟨rfl, Nat.le_trans (cutS_len z lo hi) h.2⟩)⟩)
    · rename_i ds e4
      obtain ⟨a, vs, h0, h1, h2⟩ := r3.dat_ (v := x) (rv := rx) (by simp) e4
      exact lists po ⟨a, vs, h0, h1.sq, h2⟩
    · split at po
      · rename_i ds e4
        obtain ⟨a, vs, h0, h1, h2⟩ := r3.lsd_ (v := x) (rv := rx) (by simp) e4
        exact lists po ⟨a, vs, h0, SqL.of h1, h2⟩
      · exact po.elim
end
/-! arguments, displays -/
def aNil : GA := fun s => .ok [] s
def aCons (g : G) (gs : GA) : GA := fun s => (g s).bind fun rv s1 => (gs s1).bind fun rvs s2 => .ok (rv :: rvs) s2
section
variable {X : Cx} {e : Expr} {es : List Expr} {ga : G} {gs : GA} {pos : Pos}
theorem da_nil : PA X [] (tDa X.K aNil) := PA.imp pa_nil fun σ H Q ⟨en, w, s, pend, r, po⟩ => po [] H w rfl (by simpa using r)
theorem da_cons (ha : PE X e (tD X.K ga)) (hr : PA X es (tDa X.K gs)) (hs : starEach (e :: es) X.env = (false, eval e X.env) :: starEach es X.env := by rfl) : PA X (e :: es) (tDa X.K (aCons ga gs)) :=
  PA.imp (pa_cons ha hr hs) fun σ H Q ⟨en, w, s, pend, r, po⟩ => by
    obtain ⟨rv, s1, e1, po⟩ := PostA.bind po
    obtain ⟨rvs, s2, e2, po⟩ := PostA.bind po
    exact tD.first r e1 fun x H1 w1 r1 => tDa.first r1 e2 fun xs H2 w2 hl r2 => po (x :: xs) H2 w2 (by rw [List.length_cons, hl]; rfl) (by
      rw [List.zip_cons_cons, show pend ++ (x, rv) :: xs.zip rvs = (pend ++ [(x, rv)]) ++ xs.zip rvs by simp]
      exact r2)
/-- all are data -/
def dats : List RV → Option (List D)
  | [] => some []
  | .tr (.fz d) :: r => (dats r).map (d :: ·)
  | _ => none
@[simp] theorem dats_nil : dats [] = some [] := rfl
@[simp] theorem dats_cons (d : D) (r : List RV) : dats (.tr (.fz d) :: r) = (dats r).map (d :: ·) := rfl
/-- all are trees -/
def trees : List RV → Option (List T)
  | [] => some []
  | .tr t :: r => (trees r).map (t :: ·)
  | _ => none
@[simp] theorem trees_nil : trees [] = some [] := rfl
@[simp] theorem trees_cons (t : T) (r : List RV) : trees (.tr t :: r) = (trees r).map (t :: ·) := rfl
theorem dats_eq : ∀ {rvs : List RV} {ds : List D}, dats rvs = some ds → rvs = ds.map fun d => RV.tr (.fz d)
  | [], _, h => by cases h; rfl
  | .tr (.fz d) :: r, ds, h => by
    rw [dats_cons] at h
    cases q : dats r with
    | none => rw [q] at h; cases h
    | some es => rw [q] at h; cases h; rw [dats_eq q]; rfl
  | .tr .hole :: _, _, h => by cases h
  | .tr (.lst _) :: _, _, h => by cases h
  | .tr (.dct _ _) :: _, _, h => by cases h
  | .pl _ :: _, _, h => by cases h
theorem trees_eq : ∀ {rvs : List RV} {ts : List T}, trees rvs = some ts → rvs = ts.map RV.tr
  | [], _, h => by cases h; rfl
  | .tr t :: r, ds, h => by
    rw [trees_cons] at h
    cases q : trees r with
    | none => rw [q] at h; cases h
    | some es => rw [q] at h; cases h; rw [trees_eq q]; rfl
  | .pl _ :: _, _, h => by cases h
theorem zip_trees : ∀ (vs : List V) (ts : List T), vs.zip (ts.map RV.tr) = trs (vs.zip ts)
  | [], _ => by simp [trs]
  | _ :: _, [] => by simp [trs]
  | v :: vs, t :: ts => by
    have := zip_trees vs ts
    simp only [List.map_cons, List.zip_cons_cons, trs] at this ⊢
    rw [this]
theorem zip_fst {α β : Type} : ∀ {xs : List α} {ys : List β}, xs.length = ys.length → (xs.zip ys).map (·.1) = xs
  | [], [], _ => rfl
  | _ :: _, _ :: _, h => by rw [List.zip_cons_cons, List.map_cons, zip_fst (Nat.succ.inj h)]
theorem zip_snd {α β : Type} : ∀ {xs : List α} {ys : List β}, xs.length = ys.length → (xs.zip ys).map (·.2) = ys
  | [], [], _ => rfl
  | _ :: _, _ :: _, h => by rw [List.zip_cons_cons, List.map_cons, zip_snd (Nat.succ.inj h)]
theorem RS.argsD {K : PySem.W.Frag} {en : En} {w : Lg} {s : S} {σ : L2.St} {H : Hp} {pend : List (V × RV)} : ∀ {vs : List V} {ds : List D}, vs.length = ds.length → RS K en w s σ H (pend ++ vs.zip (ds.map fun d => RV.tr (.fz d))) → Reps K w H true vs ds := by
  intro vs ds hl r
  have key : ∀ {vs : List V} {ds : List D}, vs.length = ds.length → (∀ p ∈ vs.zip (ds.map fun d => RV.tr (.fz d)), p ∈ pend ++ vs.zip (ds.map fun d => RV.tr (.fz d)) → True) → True := fun _ _ => True.intro
  have : ∀ {vs' : List V} {ds' : List D}, vs'.length = ds'.length → (∀ p, p ∈ vs'.zip (ds'.map fun d => RV.tr (.fz d)) → p ∈ vs.zip (ds.map fun d => RV.tr (.fz d))) → Reps K w H true vs' ds' := by
    intro vs'
    induction vs' with
    | nil => intro ds' h _; cases ds' with
      | nil => exact True.intro
      | cons _ _ => cases h
    | cons v vs' ih =>
      intro ds' h k
      cases ds' with
      | nil => cases h
      | cons d ds' =>
        refine ⟨r.dat (List.mem_append_right _ (k _ ?_)), ih (Nat.succ.inj h) fun p hp => k p ?_⟩
        · rw [List.map_cons, List.zip_cons_cons]; exact List.mem_cons_self
        · rw [List.map_cons, List.zip_cons_cons]; exact List.mem_cons_of_mem _ hp
  exact this hl fun _ h => h
def gTup (gs : GA) : G := fun s => (gs s).bind fun rvs s1 => match dats rvs with
  | some ds => if ds.length ≤ sizeLine then .ok (.tr (.fz (.tup ds))) s1 else .stuck
  | none => .stuck
def gLst (gs : GA) : G := fun s => (gs s).bind fun rvs s1 => match trees rvs with
  | some ts => if ts.length ≤ sizeLine then .ok (.tr (.lst ts)) s1 else .stuck
  | none => .stuck
theorem de_tup {x1} (h : PA X es (tDa X.K gs)) : PE X (.Tuple es x1 pos) (tD X.K (gTup gs)) := PE.imp (pe_tup h) fun σ H Q ⟨en, w, s, pend, r, po⟩ => by
  obtain ⟨rvs, s1, e1, po⟩ := Post.bind po
  refine tDa.first r e1 fun vs H1 w1 hl r1 => ?_
  split at po
  · rename_i ds e2
    split at po
    · rename_i hz
      have eq := dats_eq e2
      subst eq
      rw [List.length_map] at hl
      refine ⟨by rw [hl]; exact hz, fun p n => ?_⟩
      have m := r1.monoExt (upd_ext (o := .tup vs) n)
      exact po _ _ w1 (r1.drop.newData n ⟨p, vs, rfl, SqT.of upd_same, (r1.argsD hl).mono m (Lg.le_refl w1)⟩)
    · exact po.elim
  · exact po.elim
theorem de_lst (h : PA X es (tDa X.K gs)) : PE X (.List es pos) (tD X.K (gLst gs)) := PE.imp (pe_lst h) fun σ H Q ⟨en, w, s, pend, r, po⟩ => by
  obtain ⟨rvs, s1, e1, po⟩ := Post.bind po
  refine tDa.first r e1 fun vs H1 w1 hl r1 => ?_
  split at po
  · rename_i ts e2
    split at po
    · rename_i hz
      have eq := trees_eq e2
      subst eq
      rw [List.length_map] at hl
      rw [zip_trees] at r1
      refine ⟨by rw [hl]; exact hz, fun p n => ?_⟩
      refine po _ _ w1 (r1.newOver n fun F hF => ?_)
      rw [zip_fst hl, zip_snd hl] at hF
      exact ⟨p, vs, F, rfl, upd_same, hF, rfl⟩
    · exact po.elim
  · exact po.elim
/-! calls of built-ins -/
def CallS (K : PySem.W.Frag) (r : List V → Hp → VK → Prop) (p : S → List RV → R RV) : Prop :=
  ∀ (en : En) (w : Lg) (s : S) (σ : L2.St) (H : Hp) (pend : List (V × RV)) (xs : List V) (rs : List RV) (Q : VK), xs.length = rs.length → RS K en w s σ H (pend ++ xs.zip rs) → Post K en σ pend Q (p s rs) → r xs H Q
def gCB (p : S → List RV → R RV) (gs : GA) : G := fun s => (gs s).bind fun rvs s1 => p s1 rvs
theorem tCB_of {r : List V → Hp → VK → Prop} {p : S → List RV → R RV} (hS : CallS X.K r p) {σ : L2.St} {H : Hp} {Q : VK} (h : tD X.K (gCB p gs) σ H Q) : tCB r (tDa X.K gs) σ H Q := by
  obtain ⟨en, w, s, pend, rs, po⟩ := h
  obtain ⟨rvs, s1, e1, po⟩ := Post.bind po
  exact tDa.first rs e1 fun xs H1 w1 hl r1 => hS en w1 s1 σ H1 pend xs rvs Q hl r1 po
theorem de_callB {x : Str} {p : Pos} {id : String} {r : List V → Hp → VK → Prop} {q : S → List RV → R RV} (hc : CallR X (.builtin id) r) (hS : CallS X.K r q) (hg : Gl X x) (hm : X.mg x = none) (hv : bootBuiltins x = some (.builtin id)) (ha : PA X (e :: es) (tDa X.K gs))
    (hn : x ≠ "__name__" := by decide) (hdb : (x == ("__debug__" : Str)) = false := by decide)
    (he : starEach (e :: es) X.env = (false, eval e X.env) :: starEach es X.env := by rfl) (hpl : (backTo pos (starEach es X.env)).any (·.1) = false := by rfl) : PE X (.Call (.Name x p) (e :: es) [] pos) (tD X.K (gCB q gs)) :=
  PE.imp (pe_callB hc hg hm hv ha hn hdb he hpl) fun _ _ _ h => tCB_of hS h
theorem de_callTy {x : Str} {p : Pos} {id : String} {r : List V → Hp → VK → Prop} {q : S → List RV → R RV} (hc : CallR X (.type id) r) (hS : CallS X.K r q) (hg : Gl X x) (hm : X.mg x = none) (hv : bootBuiltins x = some (.type id)) (ha : PA X (e :: es) (tDa X.K gs))
    (hn : x ≠ "__name__" := by decide) (hdb : (x == ("__debug__" : Str)) = false := by decide)
    (he : starEach (e :: es) X.env = (false, eval e X.env) :: starEach es X.env := by rfl) (hpl : (backTo pos (starEach es X.env)).any (·.1) = false := by rfl) : PE X (.Call (.Name x p) (e :: es) [] pos) (tD X.K (gCB q gs)) :=
  PE.imp (pe_callTy hc hg hm hv ha hn hdb he hpl) fun _ _ _ h => tCB_of hS h
end
section
variable {K : PySem.W.Frag} {en : En} {w : Lg} {s : S} {σ : L2.St} {H : Hp} {pend : List (V × RV)}
theorem one_of {xs : List V} {rv : RV} (h : xs.length = [rv].length) : ∃ x, xs = [x] := by
  match xs, h with
  | [x], _ => exact ⟨x, rfl⟩
theorem two_of {xs : List V} {rv ru : RV} (h : xs.length = [rv, ru].length) : ∃ x y, xs = [x, y] := by
  match xs, h with
  | [x, y], _ => exact ⟨x, y, rfl⟩
/-- len -/
def lenT (t : T) : Option Nat := match t with
  | .fz (.str z) => some z.length
  | .fz (.tup ds) => some ds.length
  | .fz (.lst ds) => some ds.length
  | .fz (.fl ds) => some ds.length
  | .lst ts => some ts.length
  | _ => none
def bLen (s : S) (rs : List RV) : R RV := match rs with
  | [x] => match lenT (look s x) with
    | some n => .ok (.tr (.fz (.int n))) s
    | none => .stuck
  | _ => .stuck
theorem RepT.lenV {v : V} {t : T} {F : List Addr} {n : Nat} (h : RepT K w H v t F) (e : lenT t = some n) : LenV K v H n := by
  unfold lenT at e
  split at e
  · cases e; rw [h.1.1]; exact ⟨h.1.2, rfl⟩
  · cases e; obtain ⟨⟨a, vs, e1, e2, e3⟩, _⟩ := h; rw [e1]; exact .inr ⟨vs, e2, e3.len.symm⟩
  · cases e; obtain ⟨⟨a, vs, e1, e2, _, e3⟩, _⟩ := h; rw [e1]; exact .inl ⟨vs, SqL.of e2, e3.len.symm⟩
  · cases e; obtain ⟨⟨a, vs, e1, e2, e3⟩, _⟩ := h; rw [e1]; exact .inl ⟨vs, e2.sq, e3.len.symm⟩
  · cases e; obtain ⟨a, vs, F', e1, e2, e3, _⟩ := h; rw [e1]; exact .inl ⟨vs, SqL.of e2, e3.len.symm⟩
  · cases e
theorem callS_len : CallS K (fun xs H Q => ∃ x n, xs = [x] ∧ LenV K x H n ∧ Q (.int n) H) bLen := by
  intro en w s σ H pend xs rs Q hl r po
  unfold bLen at po
  split at po
  · rename_i rv
    obtain ⟨x, rfl⟩ := one_of hl
    split at po
    · rename_i n e
      obtain ⟨F, hF⟩ := r.tree (p := (x, rv)) (by simp)
      exact ⟨x, n, rfl, RepT.lenV hF e, po _ H w (r.drop.pushD rfl)⟩
    · exact po.elim
  · exact po.elim
/-- a value's type's name -/
def tyN (t : T) : Option String := match t with
  | .fz .non => some "NoneType"
  | .fz (.bl _) => some "bool"
  | .fz (.int _) => some "int"
  | .fz (.str _) => some "str"
  | .fz (.tup _) => some "tuple"
  | .fz (.lst _) => some "list"
  | .lst _ => some "list"
  | _ => none
theorem RepT.tyX {v : V} {t : T} {F : List Addr} {n : String} (h : RepT K w H v t F) (e : tyN t = some n) (hk : ∀ a vs, v = .ref a → SqT K H a vs → TyX K H v (.type "tuple")) : TyX K H v (.type n) := by
  unfold tyN at e
  split at e <;> cases e
  · rw [show v = .non from h.1]; exact .base .non
  · rw [show v = .bl _ from h.1]; exact .base (.bl _)
  · rw [show v = .int _ from h.1]; exact .base (.int _)
  · rw [show v = .str _ from h.1.1]; exact .base (.str _)
  · obtain ⟨⟨a, vs, e1, e2, e3⟩, _⟩ := h; exact hk a vs e1 e2
  · obtain ⟨⟨a, vs, e1, e2, _, e3⟩, _⟩ := h; rw [e1]; exact .base (.lst e2)
  · obtain ⟨a, vs, F', e1, e2, e3, _⟩ := h; rw [e1]; exact .base (.lst e2)
theorem sqT_ty {a : Addr} {vs : List V} (h : SqT K H a vs) : TyX K H (.ref a) (.type "tuple") := by
  rcases h with (h | ⟨o, h⟩) | ⟨o, its, n, h, c, _⟩
  · exact .base (.tup h)
  · exact .fTuple h
  · exact .kTuple h c
/-- isinstance(x, T), T written -/
def gIsi (T : String) (g : G) : G := fun s => (g s).bind fun rv s1 => match (tyN (look s1 rv)).bind fun n => kitB n T with
  | some b => .ok (.tr (.fz (.bl b))) s1
  | none => .stuck
theorem de_isi {X : Cx} {e : Expr} {g : G} {T : String} {x : Str} {p p1 pos : Pos} (hg : Gl X "isinstance") (hm : X.mg "isinstance" = none) (hg1 : Gl X x) (hm1 : X.mg x = none) (hv1 : bootBuiltins x = some (.type T)) (ha : PE X e (tD X.K g))
    (hn : x ≠ "__name__" := by decide) (hd : (x == ("__debug__" : Str)) = false := by decide)
    (hs1 : starEach [e, .Name x p1] X.env = (false, eval e X.env) :: starEach [.Name x p1] X.env := by rfl) (hs2 : starEach [.Name x p1] X.env = (false, eval (.Name x p1) X.env) :: starEach [] X.env := by rfl)
    (hpl : (backTo pos (starEach [.Name x p1] X.env)).any (·.1) = false := by rfl) :
    PE X (.Call (.Name "isinstance" p) [e, .Name x p1] [] pos) (tD X.K (gIsi T g)) :=
  PE.imp (pe_callB call_isi hg hm PyProof.Rows.boot_isinstance (pa_cons ha (pa_cons (pe_bltn (v := .ty T) hg1 hm1 hv1 rfl hn hd) pa_nil hs2) hs1) (by decide) (by decide) hs1 hpl) fun σ H Q ⟨en, w, s, pend, r, po⟩ => by
    obtain ⟨rv, s1, e1, po⟩ := Post.bind po
    refine tD.first r e1 fun v H1 w1 r1 => ?_
    split at po
    · rename_i b e2
      cases e3 : tyN (look s1 rv) with
      | none => rw [e3] at e2; cases e2
      | some n =>
        rw [e3] at e2
        obtain ⟨F, hF⟩ := r1.tree (p := (v, rv)) (by simp)
        exact ⟨v, .ty T, .type n, .type T, b, rfl, .ty T, RepT.tyX hF e3 fun a vs e q => by rw [e]; exact sqT_ty q, kit_ty e2, po _ H1 w1 (r1.drop.pushD rfl)⟩
    · exact po.elim
/-- isinstance(x, (T, U)) -/
def gIsi2 (T U : String) (g : G) : G := fun s => (g s).bind fun rv s1 => match (tyN (look s1 rv)).bind fun n => (kitB n T).bind fun a => (kitB n U).bind fun b => some (a || b) with
  | some b => .ok (.tr (.fz (.bl b))) s1
  | none => .stuck
theorem de_isi2 {X : Cx} {e : Expr} {g : G} {T U : String} {x y : Str} {p p1 p2 p3 pos : Pos} {k : Nat} (hg : Gl X "isinstance") (hm : X.mg "isinstance" = none) (hg1 : Gl X x) (hm1 : X.mg x = none) (hv1 : bootBuiltins x = some (.type T)) (hg2 : Gl X y) (hm2 : X.mg y = none) (hv2 : bootBuiltins y = some (.type U)) (ha : PE X e (tD X.K g))
    (hn : x ≠ "__name__" := by decide) (hd : (x == ("__debug__" : Str)) = false := by decide) (hn2 : y ≠ "__name__" := by decide) (hd2 : (y == ("__debug__" : Str)) = false := by decide)
    (hs1 : starEach [e, .Tuple [.Name x p1, .Name y p2] k p3] X.env = (false, eval e X.env) :: starEach [.Tuple [.Name x p1, .Name y p2] k p3] X.env := by rfl)
    (hpl : (backTo pos (starEach [.Tuple [.Name x p1, .Name y p2] k p3] X.env)).any (·.1) = false := by rfl) :
    PE X (.Call (.Name "isinstance" p) [e, .Tuple [.Name x p1, .Name y p2] k p3] [] pos) (tD X.K (gIsi2 T U g)) :=
  PE.imp (pe_callB call_isiT hg hm PyProof.Rows.boot_isinstance (pa_cons ha (pa_cons (pe_tup (pa_cons (pe_bltn (v := .ty T) hg1 hm1 hv1 rfl hn hd) (pa_cons (pe_bltn (v := .ty U) hg2 hm2 hv2 rfl hn2 hd2) pa_nil))) pa_nil) hs1) (by decide) (by decide) hs1 hpl) fun σ H Q ⟨en, w, s, pend, r, po⟩ => by
    obtain ⟨rv, s1, e1, po⟩ := Post.bind po
    refine tD.first r e1 fun v H1 w1 r1 => ⟨(by decide : 2 ≤ sizeLine), fun tp nt => ?_⟩
    split at po
    · rename_i b e2
      cases e3 : tyN (look s1 rv) with
      | none => rw [e3] at e2; cases e2
      | some n =>
        rw [e3] at e2
        cases e4 : kitB n T with
        | none => simp [e4] at e2
        | some a =>
          cases e5 : kitB n U with
          | none => simp [e4, e5] at e2
          | some c =>
            simp only [Option.bind_some, e4, e5, Option.some.injEq] at e2
            have r2 := r1.ext (upd_ext (o := .tup [.ty T, .ty U]) nt)
            obtain ⟨F, hF⟩ := r2.tree (p := (v, rv)) (by simp)
            refine ⟨v, tp, [.ty T, .ty U], .type n, [.type T, .type U], b, rfl, upd_same, .cons (.ty T) (.cons (.ty U) .nil), RepT.tyX hF e3 fun a vs e q => by rw [e]; exact sqT_ty q, ?_, po _ _ w1 (r2.drop.pushD rfl)⟩
            refine kitAny_cons (kit_ty e4) (fun ha => kitAny_cons (kit_ty e5) (fun hc => ?_) (fun hc => ?_)) (fun ha => ?_)
            · subst ha hc; rw [← e2]; rfl
            · subst ha hc; rw [← e2]; rfl
            · subst ha; rw [← e2]; rfl
    · exact po.elim
/-- tuple(x), list(x) of a list or a tuple -/
def bTuple (s : S) (rs : List RV) : R RV := match rs with
  | [x] => match dat s x with
    | some (.tup ds) => .ok (.tr (.fz (.tup ds))) s
    | some (.fl ds) => .ok (.tr (.fz (.tup ds))) s
    | _ => match lsd s x with
      | some ds => .ok (.tr (.fz (.tup ds))) s
      | none => .stuck
  | _ => .stuck
theorem callS_tuple : CallS K (fun xs H Q => ∃ p ys, xs = [.ref p] ∧ ((SqL K H p ys ∧ ∀ l, H l = none → Q (.ref l) (upd H l (.tup ys))) ∨ (SqT K H p ys ∧ Q (.ref p) H))) bTuple := by
  intro en w s σ H pend xs rs Q hl r po
  unfold bTuple at po
  split at po
  · rename_i rv
    obtain ⟨x, rfl⟩ := one_of hl
    have lists : ∀ {ds : List D}, Post K en σ pend Q (.ok (.tr (.fz (.tup ds))) s) → (∃ a vs, x = .ref a ∧ SqL K H a vs ∧ Reps K w H true vs ds) →
        ∃ p ys, [x] = [.ref p] ∧ ((SqL K H p ys ∧ ∀ l, H l = none → Q (.ref l) (upd H l (.tup ys))) ∨ (SqT K H p ys ∧ Q (.ref p) H)) := fun {ds} po ⟨a, vs, e, k, h⟩ => by
      subst e
      refine ⟨a, vs, rfl, .inl ⟨k, fun l n => ?_⟩⟩
      have m := r.monoExt (upd_ext (o := .tup vs) n)
      exact po _ _ w (r.drop.newData n ⟨l, vs, rfl, SqT.of upd_same, h.mono m (Lg.le_refl w)⟩)
    split at po
    · rename_i ds e
      obtain ⟨a, vs, rfl, h1, h2⟩ := r.dat_ (v := x) (rv := rv) (by simp) e
      exact ⟨a, vs, rfl, .inr ⟨h1, po _ H w (r.drop.pushD ⟨a, vs, rfl, h1, h2⟩)⟩⟩
    · rename_i ds e
      obtain ⟨a, vs, e0, h1, h2⟩ := r.dat_ (v := x) (rv := rv) (by simp) e
      exact lists po ⟨a, vs, e0, h1.sq, h2⟩
    · split at po
      · rename_i ds e
        obtain ⟨a, vs, e0, h1, h2⟩ := r.lsd_ (v := x) (rv := rv) (by simp) e
        exact lists po ⟨a, vs, e0, SqL.of h1, h2⟩
      · exact po.elim
  · exact po.elim
def bList (s : S) (rs : List RV) : R RV := match rs with
  | [x] => match dat s x with
    | some (.tup ds) => .ok (.tr (.lst (ds.map .fz))) s
    | some (.fl ds) => .ok (.tr (.lst (ds.map .fz))) s
    | _ => match lsd s x with
      | some ds => .ok (.tr (.lst (ds.map .fz))) s
      | none => .stuck
  | _ => .stuck
theorem callS_list : CallS K (fun xs H Q => ∃ p ys, xs = [.ref p] ∧ (SqL K H p ys ∨ SqT K H p ys) ∧ ∀ l, H l = none → Q (.ref l) (upd H l (.lst ys))) bList := by
  intro en w s σ H pend xs rs Q hl r po
  unfold bList at po
  split at po
  · rename_i rv
    obtain ⟨x, rfl⟩ := one_of hl
    have lists : ∀ {ds : List D}, Post K en σ pend Q (.ok (.tr (.lst (ds.map .fz))) s) → (∃ a vs, x = .ref a ∧ (SqL K H a vs ∨ SqT K H a vs) ∧ Reps K w H true vs ds) →
        ∃ p ys, [x] = [.ref p] ∧ (SqL K H p ys ∨ SqT K H p ys) ∧ ∀ l, H l = none → Q (.ref l) (upd H l (.lst ys)) := fun {ds} po ⟨a, vs, e, k, h⟩ => by
      subst e
      exact ⟨a, vs, rfl, k, fun l n => po _ _ w (r.drop.newList n h)⟩
    split at po
    · rename_i ds e
      obtain ⟨a, vs, e0, h1, h2⟩ := r.dat_ (v := x) (rv := rv) (by simp) e
      exact lists po ⟨a, vs, e0, .inr h1, h2⟩
    · rename_i ds e
      obtain ⟨a, vs, e0, h1, h2⟩ := r.dat_ (v := x) (rv := rv) (by simp) e
      exact lists po ⟨a, vs, e0, .inl h1.sq, h2⟩
    · split at po
      · rename_i ds e
        obtain ⟨a, vs, e0, h1, h2⟩ := r.lsd_ (v := x) (rv := rv) (by simp) e
        exact lists po ⟨a, vs, e0, .inl (SqL.of h1), h2⟩
      · exact po.elim
  · exact po.elim
def bAbs (s : S) (rs : List RV) : R RV := match rs with
  | [x] => match dat s x with
    | some (.int i) => .ok (.tr (.fz (.int (if i < 0 then -i else i)))) s
    | _ => .stuck
  | _ => .stuck
theorem callS_abs : CallS K (fun xs H Q => ∃ i, xs = [.int i] ∧ Q (.int (if i < 0 then -i else i)) H) bAbs := by
  intro en w s σ H pend xs rs Q hl r po
  unfold bAbs at po
  split at po
  · rename_i rv
    obtain ⟨x, rfl⟩ := one_of hl
    split at po
    · rename_i i e
      have h : x = .int i := r.dat_ (v := x) (rv := rv) (by simp) e
      exact ⟨i, by rw [h], po _ H w (r.drop.pushD rfl)⟩
    · exact po.elim
  · exact po.elim
def bInt (s : S) (rs : List RV) : R RV := match rs with
  | [x] => match dat s x with
    | some (.int i) => .ok (.tr (.fz (.int i))) s
    | some (.bl k) => .ok (.tr (.fz (.int (if k then 1 else 0)))) s
    | _ => .stuck
  | _ => .stuck
theorem callS_int : CallS K (fun xs H Q => (∃ i, xs = [.int i] ∧ Q (.int i) H) ∨ ∃ k, xs = [.bl k] ∧ Q (.int (if k then 1 else 0)) H) bInt := by
  intro en w s σ H pend xs rs Q hl r po
  unfold bInt at po
  split at po
  · rename_i rv
    obtain ⟨x, rfl⟩ := one_of hl
    split at po
    · rename_i i e
      have h : x = .int i := r.dat_ (v := x) (rv := rv) (by simp) e
      exact .inl ⟨i, by rw [h], po _ H w (r.drop.pushD rfl)⟩
    · rename_i i e
      have h : x = .bl i := r.dat_ (v := x) (rv := rv) (by simp) e
      exact .inr ⟨i, by rw [h], po _ H w (r.drop.pushD rfl)⟩
    · exact po.elim
  · exact po.elim
def bMax2 (s : S) (rs : List RV) : R RV := match rs with
  | [x, y] => match dat s x, dat s y with
    | some (.int i), some (.int j) => .ok (.tr (.fz (.int (if j > i then j else i)))) s
    | _, _ => .stuck
  | _ => .stuck
theorem callS_max2 : CallS K (fun xs H Q => ∃ i j, xs = [.int i, .int j] ∧ Q (.int (if j > i then j else i)) H) bMax2 := by
  intro en w s σ H pend xs rs Q hl r po
  unfold bMax2 at po
  split at po
  · rename_i rv ru
    obtain ⟨x, y, rfl⟩ := two_of hl
    split at po
    · rename_i i j e1 e2
      have h : x = .int i := r.dat_ (v := x) (rv := rv) (by simp) e1
      have h2 : y = .int j := r.dat_ (v := y) (rv := ru) (by simp) e2
      exact ⟨i, j, by rw [h, h2], po _ H w (r.drop.pushD rfl)⟩
    · exact po.elim
  · exact po.elim
def bMin2 (s : S) (rs : List RV) : R RV := match rs with
  | [x, y] => match dat s x, dat s y with
    | some (.int i), some (.int j) => .ok (.tr (.fz (.int (if j < i then j else i)))) s
    | _, _ => .stuck
  | _ => .stuck
theorem callS_min2 : CallS K (fun xs H Q => ∃ i j, xs = [.int i, .int j] ∧ Q (.int (if j < i then j else i)) H) bMin2 := by
  intro en w s σ H pend xs rs Q hl r po
  unfold bMin2 at po
  split at po
  · rename_i rv ru
    obtain ⟨x, y, rfl⟩ := two_of hl
    split at po
    · rename_i i j e1 e2
      have h : x = .int i := r.dat_ (v := x) (rv := rv) (by simp) e1
      have h2 : y = .int j := r.dat_ (v := y) (rv := ru) (by simp) e2
      exact ⟨i, j, by rw [h, h2], po _ H w (r.drop.pushD rfl)⟩
    · exact po.elim
  · exact po.elim
end
end PL
set_option Elab.async false
set_option linter.all false
set_option maxRecDepth 100000
set_option autoImplicit false
namespace PL
open PySem PySem.Spec PyProof.Rows L2
/-! ### what is walked -/
def Holds (K : PySem.W.Frag) (w : Lg) (H : Hp) (pv : List (V × D)) : Prop := ∀ p ∈ pv, Rep K w H true p.1 p.2
def fzp (pv : List (V × D)) : List (V × RV) := pv.map fun p => (p.1, RV.tr (.fz p.2))
structure WalkD (K : PySem.W.Frag) (J : It) (ds : List D) (pv : List (V × D)) : Prop where
  goes : ∀ i (w : Lg) H, i < ds.length → Holds K w H pv → J.go i H
  stops : ∀ (w : Lg) H, Holds K w H pv → J.stop ds.length H
  yields : ∀ i (w : Lg) H x H', i < ds.length → Holds K w H pv → J.yld i H x H' → (∀ a o, H a = some o → H' a = some o) ∧ ∀ (w' : Lg), w.le w' → Mono w H H' → ∀ d, ds[i]? = some d → Rep K w' H' true x d
def PostI (K : PySem.W.Frag) (en : En) (σ : L2.St) (pend : List (V × RV)) (R' : It → Hp → Prop) : R (List D) → Prop
  | .ok ds s => ∀ J H w pv, RS K en w s σ H (pend ++ fzp pv) → WalkD K J ds pv → R' J H
  | .exc _ _ => False
  | .stuck => False
abbrev GI := S → R (List D)
def tDi (K : PySem.W.Frag) (g : GI) : TI := fun σ H R' => ∃ en w s pend, RS K en w s σ H pend ∧ PostI K en σ pend R' (g s)
theorem PostI.bind {K : PySem.W.Frag} {en : En} {σ : L2.St} {pend : List (V × RV)} {Q : It → Hp → Prop} {α : Type} {r : R α} {f : α → S → R (List D)} (h : PostI K en σ pend Q (r.bind f)) : ∃ a s, r = .ok a s ∧ PostI K en σ pend Q (f a s) := by
  cases r with
  | ok a s => exact ⟨a, s, rfl, h⟩
  | exc x s => exact h.elim
  | stuck => exact h.elim
theorem PI.imp {X : Cx} {tg e : Expr} {t t' : TI} (h : PI X tg e t) (k : ∀ σ H Q, t' σ H Q → t σ H Q) : PI X tg e t' := ⟨fun pins s σ H Q I q => h.run pins s σ H Q I (k _ _ _ q)⟩
/-- a list, a tuple or a text -/
def iAny (K : PySem.W.Frag) (te : TE) : TI := fun σ H R' => te σ H fun x H1 =>
  (∃ a, x = .ref a ∧ (∃ xs, SqL K H1 a xs) ∧ R' (Itl K a) H1) ∨ (∃ a, x = .ref a ∧ (∃ xs, SqT K H1 a xs) ∧ R' (Itt K a) H1) ∨ ∃ z, x = .str z ∧ R' (Its z) H1
theorem pi_any {X : Cx} {tg e : Expr} {te : TE} (he : PE X e te) : PI X tg e (iAny X.K te) := by
  have run1 : ∀ (pins : List (Addr × Obj)) (s1 : Shared) (σ : L2.St) (v : Value) (R' : It → Hp → Prop), EP X pins σ (fun x H1 => (∃ a, x = .ref a ∧ (∃ xs, SqL X.K H1 a xs) ∧ R' (Itl X.K a) H1) ∨ (∃ a, x = .ref a ∧ (∃ xs, SqT X.K H1 a xs) ∧ R' (Itt X.K a) H1) ∨ ∃ z, x = .str z ∧ R' (Its z) H1) v s1 →
      wpAny (model X.prog X.w) X.A (pyIter v) (PIE X pins σ tg R') X.xe s1 := by
    intro pins s1 σ v R' ⟨x, H1, I1, r1, q1⟩
    rcases q1 with ⟨a, e, ⟨xs, hq⟩, q⟩ | ⟨a, e, ⟨xs, hq⟩, q⟩ | ⟨z, e, q⟩
    · subst e
      cases r1
      obtain ⟨its, rv, p, hz⟩ := I1.list hq
      exact wpAny_pyIter_list p.isList (pi_one (tk := s1.toks) I1 _ (turn_list a _) ⟨_, Heap.get?_push_size _ rfl, rfl, rfl⟩ q)
    · subst e
      cases r1
      obtain ⟨its, rv, p, hz⟩ := I1.tuple hq
      exact wpAny_pyIter_tuple (show s1.heap.IsTuple a its.toArray from p) (pi_one (tk := s1.toks) I1 _ (turn_tuple a _) ⟨_, Heap.get?_push_size _ rfl, rfl, rfl⟩ q)
    · subst e
      obtain ⟨t, rfl⟩ := r1
      cases ha : z.cps.all (· < 128)
      · exact wpAny_pyIter_wide ha (pi_one (tk := s1.toks) I1 _ (turn_str _ z t "str_iterator" (.inr rfl)) ⟨_, Heap.get?_push_size _ rfl, rfl, rfl⟩ q)
      · exact wpAny_pyIter_ascii ha (pi_one (tk := s1.toks) I1 _ (turn_str _ z t "str_ascii_iterator" (.inl rfl)) ⟨_, Heap.get?_push_size _ rfl, rfl, rfl⟩ q)
  exact ⟨fun pins s σ H R' I h => thn (he.run pins s σ H _ I h) fun v s1 q => run1 pins s1 σ v R' q⟩
def chars (z : Str) : List D := z.cps.toList.map fun c => D.str ⟨#[c]⟩
def itv (rv : RV) (s : S) : R (List D) := match rv with
  | .tr (.fz (.tup ds)) => .ok ds s
  | .tr (.fz (.lst ds)) => .ok ds s
  | .tr (.fz (.fl ds)) => .ok ds s
  | .tr (.fz (.str z)) => .ok (chars z) s
  | _ => .stuck
def iOf (g : G) : GI := fun s => (gFz g s).bind itv
theorem Reps.one1 {K : PySem.W.Frag} {w w' : Lg} {H H' : Hp} {vs : List V} {ds : List D} {x : V} {d : D} {i : Nat} (h : Reps K w H true vs ds) (m : Mono w H H') (l : w.le w') (e : ds[i]? = some d) (k : vs[i]? = some x) : Rep K w' H' true x d := by
  obtain ⟨v, e1, r⟩ := h.get e
  rw [k] at e1
  cases e1
  exact r.mono m l
theorem walk_tupD {K : PySem.W.Frag} {a : Addr} {ds : List D} : WalkD K (Itt K a) ds [(.ref a, .tup ds)] := by
  have un : ∀ {w : Lg} {H : Hp}, Holds K w H [(.ref a, .tup ds)] → ∃ vs, SqT K H a vs ∧ Reps K w H true vs ds := fun h => by
    obtain ⟨b, vs, e, h1, h2⟩ := h (.ref a, .tup ds) (by simp)
    cases e
    exact ⟨vs, h1, h2⟩
  refine ⟨fun i w H hi h => ?_, fun w H h => ?_, fun i w H x H' hi h y => ?_⟩
  · obtain ⟨vs, h1, h2⟩ := un h
    have hl : i < vs.length := by rw [h2.len]; exact hi
    exact ⟨vs, vs[i], h1, by simp [hl]⟩
  · obtain ⟨vs, h1, h2⟩ := un h
    exact ⟨vs, h1, Nat.le_of_eq h2.len⟩
  · obtain ⟨vs, h1, h2⟩ := un h
    obtain ⟨rfl, y⟩ := y
    exact ⟨fun _ _ e => e, fun w' l m d e => h2.one1 m l e (y vs h1)⟩
theorem walk_lstD {K : PySem.W.Frag} {a : Addr} {ds : List D} {d0 : D} (hd : d0 = .lst ds ∨ d0 = .fl ds) : WalkD K (Itl K a) ds [(.ref a, d0)] := by
  have un : ∀ {w : Lg} {H : Hp}, Holds K w H [(.ref a, d0)] → ∃ vs, SqL K H a vs ∧ Reps K w H true vs ds := fun h => by
    have h := h (.ref a, d0) (by simp)
    rcases hd with rfl | rfl
    · obtain ⟨b, vs, e, h1, _, h2⟩ := h
      cases e
      exact ⟨vs, SqL.of h1, h2⟩
    · obtain ⟨b, vs, e, h1, h2⟩ := h
      cases e
      exact ⟨vs, h1.sq, h2⟩
  refine ⟨fun i w H hi h => ?_, fun w H h => ?_, fun i w H x H' hi h y => ?_⟩
  · obtain ⟨vs, h1, h2⟩ := un h
    have hl : i < vs.length := by rw [h2.len]; exact hi
    exact ⟨vs, vs[i], h1, by simp [hl]⟩
  · obtain ⟨vs, h1, h2⟩ := un h
    exact ⟨vs, h1, Nat.le_of_eq h2.len⟩
  · obtain ⟨vs, h1, h2⟩ := un h
    obtain ⟨rfl, y⟩ := y
    exact ⟨fun _ _ e => e, fun w' l m d e => h2.one1 m l e (y vs h1)⟩
theorem chars_get {z : Str} {i : Nat} {d : D} (h : (chars z)[i]? = some d) : ∃ c, z.cps[i]? = some c ∧ d = .str ⟨#[c]⟩ := by
  unfold chars at h
  rw [List.getElem?_map] at h
  cases q : z.cps.toList[i]? with
  | none => rw [q] at h; cases h
  | some c =>
    rw [q] at h
    cases h
    exact ⟨c, by rw [← Array.getElem?_toList]; exact q, rfl⟩
theorem walk_strD {K : PySem.W.Frag} {z : Str} : WalkD K (Its z) (chars z) [] := by
  have hl : (chars z).length = z.cps.size := by unfold chars; rw [List.length_map, Array.length_toList]
  refine ⟨fun i w H hi _ => by rw [hl] at hi; exact hi, fun w H _ => Nat.le_of_eq hl.symm, fun i w H x H' hi h y => ?_⟩
  obtain ⟨rfl, c, hc, rfl⟩ := y
  refine ⟨fun _ _ e => e, fun w' l m d e => ?_⟩
  obtain ⟨c', hc', rfl⟩ := chars_get e
  rw [hc] at hc'
  cases hc'
  exact ⟨rfl, (by decide : 1 ≤ sizeLine)⟩
section
variable {X : Cx} {tg e : Expr} {ga : G}
theorem di_of (he : PE X e (tD X.K ga)) : PI X tg e (tDi X.K (iOf ga)) := PI.imp (pi_any (de_fz he)) fun σ H R' ⟨en, w, s, pend, r, po⟩ => by
  obtain ⟨rv, s1, e1, po⟩ := PostI.bind po
  refine tD.first r e1 fun v H1 w1 r1 => ?_
  unfold itv at po
  split at po
  · rename_i ds
    obtain ⟨a, vs, rfl, h1, h2⟩ := r1.dat (v := v) (d := .tup ds) (by simp)
    exact .inr (.inl ⟨a, rfl, ⟨vs, h1⟩, po _ H1 w1 [(.ref a, .tup ds)] r1 walk_tupD⟩)
  · rename_i ds
    obtain ⟨a, vs, rfl, h1, _, h2⟩ := r1.dat (v := v) (d := .lst ds) (by simp)
    exact .inl ⟨a, rfl, ⟨vs, SqL.of h1⟩, po _ H1 w1 [(.ref a, .lst ds)] r1 (walk_lstD (.inl rfl))⟩
  · rename_i ds
    obtain ⟨a, vs, rfl, h1, h2⟩ := r1.dat (v := v) (d := .fl ds) (by simp)
    exact .inl ⟨a, rfl, ⟨vs, h1.sq⟩, po _ H1 w1 [(.ref a, .fl ds)] r1 (walk_lstD (.inr rfl))⟩
  · rename_i z
    have h := r1.dat (v := v) (d := .str z) (by simp)
    exact .inr (.inr ⟨z, h.1, po _ H1 w1 [] (by simpa [fzp] using r1.drop) walk_strD⟩)
  · exact po.elim
/-! range -/
def rangeD (lo : Int) (n : Nat) : List D := (List.range n).map fun (i : Nat) => D.int (lo + i)
theorem rangeD_get {lo : Int} {n i : Nat} {d : D} (h : (rangeD lo n)[i]? = some d) : d = .int (lo + i) := by
  unfold rangeD at h
  rw [List.getElem?_map] at h
  cases q : (List.range n)[i]? with
  | none => rw [q] at h; cases h
  | some j =>
    rw [q] at h
    cases h
    have := (List.getElem?_eq_some_iff.mp q).2
    rw [List.getElem_range] at this
    rw [this]
theorem walk_rangeD {K : PySem.W.Frag} {lo : Int} {n : Nat} : WalkD K (Itr lo n) (rangeD lo n) [] := by
  have hl : (rangeD lo n).length = n := by unfold rangeD; rw [List.length_map, List.length_range]
  refine ⟨fun i w H hi _ => by rw [hl] at hi; exact hi, fun w H _ => Nat.le_of_eq hl.symm, fun i w H x H' hi h y => ?_⟩
  obtain ⟨rfl, rfl⟩ := y
  exact ⟨fun _ _ e => e, fun w' l m d e => by rw [rangeD_get e]; rfl⟩
/-- a, a + c, .. n of them -/
def rangeC (lo c : Int) (n : Nat) : List D := (List.range n).map fun (i : Nat) => D.int (lo + i * c)
theorem rangeC_get {lo c : Int} {n i : Nat} {d : D} (h : (rangeC lo c n)[i]? = some d) : d = .int (lo + (i : Nat) * c) := by
  unfold rangeC at h
  rw [List.getElem?_map] at h
  cases q : (List.range n)[i]? with
  | none => rw [q] at h; cases h
  | some j =>
    rw [q] at h
    cases h
    have := (List.getElem?_eq_some_iff.mp q).2
    rw [List.getElem_range] at this
    rw [this]
theorem walk_rangeCD {K : PySem.W.Frag} {lo c : Int} {n : Nat} : WalkD K (Itc lo c n) (rangeC lo c n) [] := by
  have hl : (rangeC lo c n).length = n := by unfold rangeC; rw [List.length_map, List.length_range]
  refine ⟨fun i w H hi _ => by rw [hl] at hi; exact hi, fun w H _ => Nat.le_of_eq hl.symm, fun i w H x H' hi h y => ?_⟩
  obtain ⟨rfl, rfl⟩ := y
  exact ⟨fun _ _ e => e, fun w' l m d e => by rw [rangeC_get e]; rfl⟩
def small62 (j : Int) : Bool := decide (j.natAbs < 2 ^ 62)
theorem small62_ok {j : Int} (h : small62 j = true) : -(2 ^ 62) ≤ j ∧ j < 2 ^ 62 := by
  have h := of_decide_eq_true (p := j.natAbs < 2 ^ 62) h
  have e : ((2 ^ 62 : Nat) : Int) = 2 ^ 62 := by decide
  omega
def rng1 (rvs : List RV) (s : S) : R (List D) := match rvs with
  | [x] => match dat s x with
    | some (.int j) => if small62 j then .ok (rangeD 0 j.toNat) s else .stuck
    | _ => .stuck
  | _ => .stuck
def iRange1 (gs : GA) : GI := fun s => (gs s).bind rng1
def rng2 (rvs : List RV) (s : S) : R (List D) := match rvs with
  | [x, y] => match dat s x, dat s y with
    | some (.int i), some (.int j) => if small62 i && small62 j then .ok (rangeD i (j - i).toNat) s else .stuck
    | _, _ => .stuck
  | _ => .stuck
def iRange2 (gs : GA) : GI := fun s => (gs s).bind rng2
/-- range(a, b, -1) -/
def rngD (rvs : List RV) (s : S) : R (List D) := match rvs with
  | [x, y, z] => match dat s x, dat s y, dat s z with
    | some (.int i), some (.int j), some (.int k) => if small62 i && small62 j && decide (k = -1) then .ok (rangeC i (-1) (i - j).toNat) s else .stuck
    | _, _, _ => .stuck
  | _ => .stuck
def iRangeD (gs : GA) : GI := fun s => (gs s).bind rngD
variable {a b c : Expr} {gs : GA} {p pos : Pos}
theorem di_range1 (hg : Gl X "range") (hm : X.mg "range" = none) (ha : PA X [a] (tDa X.K gs)) (hs : starEach [a] X.env = [(false, eval a X.env)] := by rfl) : PI X tg (.Call (.Name "range" p) [a] [] pos) (tDi X.K (iRange1 gs)) :=
  PI.imp (pi_range1 hg hm ha hs) fun σ H R' ⟨en, w, s, pend, r, po⟩ => by
    obtain ⟨rvs, s1, e1, po⟩ := PostI.bind po
    refine tDa.first r e1 fun vs H1 w1 hl r1 => ?_
    unfold rng1 at po
    split at po
    · rename_i rv
      obtain ⟨x, rfl⟩ := one_of hl
      split at po
      · rename_i j e2
        split at po
        · rename_i hj
          have h : x = .int j := r1.dat_ (v := x) (rv := rv) (by simp) e2
          obtain ⟨h1, h2⟩ := small62_ok hj
          exact ⟨j, by rw [h], h1, h2, po _ H1 w1 [] (by simpa [fzp] using r1.drop) walk_rangeD⟩
        · exact po.elim
      · exact po.elim
    · exact po.elim
theorem di_range2 (hg : Gl X "range") (hm : X.mg "range" = none) (ha : PA X [a, b] (tDa X.K gs)) (hs : starEach [a, b] X.env = [(false, eval a X.env), (false, eval b X.env)] := by rfl) (hs2 : starEach [b] X.env = [(false, eval b X.env)] := by rfl) :
    PI X tg (.Call (.Name "range" p) [a, b] [] pos) (tDi X.K (iRange2 gs)) :=
  PI.imp (pi_range2 hg hm ha hs hs2) fun σ H R' ⟨en, w, s, pend, r, po⟩ => by
    obtain ⟨rvs, s1, e1, po⟩ := PostI.bind po
    refine tDa.first r e1 fun vs H1 w1 hl r1 => ?_
    unfold rng2 at po
    split at po
    · rename_i rv ru
      obtain ⟨x, y, rfl⟩ := two_of hl
      split at po
      · rename_i i j e2 e3
        split at po
        · rename_i hj
          obtain ⟨hi, hj⟩ := (Bool.and_eq_true _ _).mp hj
          have h : x = .int i := r1.dat_ (v := x) (rv := rv) (by simp) e2
          have h' : y = .int j := r1.dat_ (v := y) (rv := ru) (by simp) e3
          obtain ⟨h1, h2⟩ := small62_ok hj
          obtain ⟨h3, h4⟩ := small62_ok hi
          exact ⟨i, j, by rw [h, h'], ⟨h3, h4, h1, h2⟩, po _ H1 w1 [] (by simpa [fzp] using r1.drop) walk_rangeD⟩
        · exact po.elim
      · exact po.elim
    · exact po.elim
theorem three_of {xs : List V} {rv ru rw : RV} (h : xs.length = [rv, ru, rw].length) : ∃ x y z, xs = [x, y, z] := by
  match xs, h with
  | [x, y, z], _ => exact ⟨x, y, z, rfl⟩
theorem di_rangeD (hg : Gl X "range") (hm : X.mg "range" = none) (ha : PA X [a, b, c] (tDa X.K gs)) (hs : starEach [a, b, c] X.env = (false, eval a X.env) :: starEach [b, c] X.env := by rfl) (hpl : (backTo pos (starEach [b, c] X.env)).any (·.1) = false := by rfl) :
    PI X tg (.Call (.Name "range" p) [a, b, c] [] pos) (tDi X.K (iRangeD gs)) :=
  PI.imp (pi_range3 hg hm ha hs hpl) fun σ H R' ⟨en, w, s, pend, r, po⟩ => by
    obtain ⟨rvs, s1, e1, po⟩ := PostI.bind po
    refine tDa.first r e1 fun vs H1 w1 hl r1 => ?_
    unfold rngD at po
    split at po
    · rename_i rv ru rt
      obtain ⟨x, y, z, rfl⟩ := three_of hl
      split at po
      · rename_i i j k e2 e3 e4
        split at po
        · rename_i hj
          obtain ⟨hij, hk⟩ := (Bool.and_eq_true _ _).mp hj
          obtain ⟨hi, hj'⟩ := (Bool.and_eq_true _ _).mp hij
          have hk : k = -1 := of_decide_eq_true hk
          subst hk
          have h : x = .int i := r1.dat_ (v := x) (rv := rv) (by simp) e2
          have h' : y = .int j := r1.dat_ (v := y) (rv := ru) (by simp) e3
          have h'' : z = .int (-1) := r1.dat_ (v := z) (rv := rt) (by simp) e4
          obtain ⟨h1, h2⟩ := small62_ok hj'
          obtain ⟨h3, h4⟩ := small62_ok hi
          exact ⟨i, j, -1, _, by rw [h, h', h''], RgC.neg h3 h4 h1 h2, po _ H1 w1 [] (by simpa [fzp] using r1.drop) walk_rangeCD⟩
        · exact po.elim
      · exact po.elim
    · exact po.elim
end
/-! ### targets -/
abbrev GG := D → S → Option S
/-- the reading t of a target stores data as g says, into the slots is -/
def DG (K : PySem.W.Frag) (t : TG) (is : List Nat) (g : GG) : Prop :=
  ∀ (en : En) (w : Lg) (s s' : S) (σ : L2.St) (H : Hp) (pend : List (V × RV)) (v : V) (d : D) (Q : L2.St → Hp → Prop), RS K en w s σ H pend → Rep K w H true v d → (∀ i ∈ is, NoPl i pend) → g d s = some s' →
    (∀ σ', σ'.length = σ.length → (∀ i, i ∉ is → σ'[i]? = (σ[i]? : Option (Option V))) → RS K en w s' σ' H pend → Q σ' H) → t v σ H Q
def tgName (i : Nat) : GG := fun d s => if i < s.sl.length then some { s with sl := s.sl.set i (.fz d) } else none
def tgsNil : List D → S → Option S := fun ds s => if ds.isEmpty then some s else none
def tgsCons (g : GG) (gs : List D → S → Option S) : List D → S → Option S := fun ds s => match ds with
  | d :: ds => (g d s).bind fun s1 => gs ds s1
  | [] => none
def tgTup (n : Nat) (gs : List D → S → Option S) : GG := fun d s => match d with
  | .tup ds => if ds.length = n then gs ds s else none
  | _ => none
section
variable {K : PySem.W.Frag}
theorem dg_name (i : Nat) : DG K (gName i) [i] (tgName i) := by
  intro en w s s' σ H pend v d Q r hd np e k
  unfold tgName at e
  split at e
  · rename_i hlt
    cases e
    refine k _ (List.length_set ..) (fun j hj => List.getElem?_set_ne (fun e => hj (by simp [e]))) ?_
    exact (r.pushD hd).store hlt (np i (by simp))
  · cases e
def DGs (K : PySem.W.Frag) (t : TGs) (is : List Nat) (g : List D → S → Option S) : Prop :=
  ∀ (en : En) (w : Lg) (s s' : S) (σ : L2.St) (H : Hp) (pend : List (V × RV)) (vs : List V) (ds : List D) (Q : L2.St → Hp → Prop), RS K en w s σ H pend → Reps K w H true vs ds → (∀ i ∈ is, NoPl i pend) → g ds s = some s' →
    (∀ σ', σ'.length = σ.length → (∀ i, i ∉ is → σ'[i]? = (σ[i]? : Option (Option V))) → RS K en w s' σ' H pend → Q σ' H) → t vs σ H Q
theorem dgs_nil : DGs K gNil [] tgsNil := by
  intro en w s s' σ H pend vs ds Q r hd np e k
  unfold tgsNil at e
  split at e
  · rename_i hn
    cases e
    refine ⟨?_, k σ rfl (fun _ _ => rfl) r⟩
    have h1 := hd.emp
    rw [hn] at h1
    exact List.isEmpty_iff.mp h1
  · cases e
theorem dgs_cons {t1 : TG} {t2 : TGs} {is js : List Nat} {g : GG} {gs : List D → S → Option S} (k1 : DG K t1 is g) (k2 : DGs K t2 js gs) : DGs K (gCons t1 t2) (is ++ js) (tgsCons g gs) := by
  intro en w s s' σ H pend vs ds Q r hd np e k
  unfold tgsCons at e
  split at e
  · rename_i d ds'
    cases vs with
    | nil => exact hd.elim
    | cons v vs =>
      cases q : g d s with
      | none => rw [q] at e; cases e
      | some s1 =>
        rw [q] at e
        refine ⟨v, vs, rfl, k1 en w s s1 σ H pend v d _ r hd.1 (fun i hi => np i (List.mem_append_left _ hi)) q fun σ1 l1 o1 r1 => ?_⟩
        refine k2 en w s1 s' σ1 H pend vs ds' _ r1 hd.2 (fun i hi => np i (List.mem_append_right _ hi)) e fun σ2 l2 o2 r2 => k σ2 (l2.trans l1) (fun i hi => ?_) r2
        rw [List.mem_append, not_or] at hi
        rw [o2 i hi.2, o1 i hi.1]
  · cases e
theorem dg_tup {t : TGs} {is : List Nat} {gs : List D → S → Option S} {n : Nat} (h : DGs K t is gs) : DG K (L2.gTup K n t) is (tgTup n gs) := by
  intro en w s s' σ H pend v d Q r hd np e k
  unfold tgTup at e
  split at e
  · rename_i ds
    split at e
    · rename_i hl
      obtain ⟨a, vs, e1, h1, h2⟩ := hd
      exact ⟨a, vs, e1, h1, by rw [h2.len]; exact hl, h en w s s' σ H pend vs ds Q r h2 np e k⟩
    · cases e
  · cases e
end
end PL
set_option Elab.async false
set_option linter.all false
set_option maxRecDepth 100000
set_option autoImplicit false
namespace PL
open PySem PySem.Spec PyProof.Rows L2
/-! ### list comprehensions -/
def holes (own : List Nat) (s : S) : Bool := own.all fun i => match s.sl[i]? with
  | some .hole => true
  | _ => false
def forgets : List Nat → S → S
  | [], s => s
  | i :: is, s => forgets is { s with sl := s.sl.set i .hole }
def compGo (own : List Nat) (tg : GG) (gt : GT) (ge : G) : List D → List T → S → R (List T)
  | [], acc, s => .ok acc s
  | d :: ds, acc, s => match tg d s with
    | none => .stuck
    | some s1 => (gt s1).bind fun b s2 =>
      if b then (gNp ge s2).bind fun rv s3 => match rv with
        | .tr t => if acc.length < sizeLine then compGo own tg gt ge ds (acc ++ [t]) (forgets own s3) else .stuck
        | .pl _ => .stuck
      else compGo own tg gt ge ds acc (forgets own s2)
def gComp (own : List Nat) (gi : GI) (tg : GG) (gt : GT) (ge : G) : G := fun s => (gi s).bind fun ds s1 =>
  if holes own s1 then (compGo own tg gt ge ds [] s1).bind fun ts s2 => .ok (.tr (.lst ts)) s2 else .stuck
theorem wipe_get (σ : L2.St) : ∀ (vs : List Nat) (i : Nat), (wipe σ vs)[i]? = if i ∈ vs then (if i < σ.length then some none else none) else σ[i]?
  | [], i => by simp [wipe]
  | v :: vs, i => by
    unfold wipe
    by_cases h : i = v
    · subst h
      rw [if_pos List.mem_cons_self]
      by_cases hl : i < σ.length
      · rw [if_pos hl, List.getElem?_set_self (by rw [wipe_length]; exact hl)]
      · rw [if_neg hl, List.getElem?_eq_none (by rw [List.length_set, wipe_length]; omega)]
    · rw [List.getElem?_set_ne (Ne.symm h), wipe_get σ vs i]
      by_cases hm : i ∈ vs
      · rw [if_pos hm, if_pos (List.mem_cons_of_mem _ hm)]
      · rw [if_neg hm, if_neg (by simp [h, hm])]
theorem wipe_eq {σ σ' : L2.St} {vs : List Nat} (hl : σ'.length = σ.length) (h : ∀ i, i ∉ vs → σ'[i]? = (σ[i]? : Option (Option V))) : wipe σ' vs = wipe σ vs := by
  apply List.ext_getElem?
  intro i
  rw [wipe_get, wipe_get, hl]
  by_cases hm : i ∈ vs
  · rw [if_pos hm, if_pos hm]
  · rw [if_neg hm, if_neg hm, h i hm]
theorem wipe_wipe (σ : L2.St) (vs : List Nat) : wipe (wipe σ vs) vs = wipe σ vs := by
  apply List.ext_getElem?
  intro i
  rw [wipe_get, wipe_get, wipe_length]
  by_cases hm : i ∈ vs
  · rw [if_pos hm, if_pos hm]
  · rw [if_neg hm, if_neg hm]
section
variable {K : PySem.W.Frag} {en : En} {w : Lg} {s : S} {σ : L2.St} {H : Hp} {pend : List (V × RV)}
theorem holes_at {own : List Nat} (h : holes own s = true) : ∀ i ∈ own, s.sl[i]? = some .hole := fun i hi => by
  have := List.all_eq_true.mp h i hi
  revert this
  cases q : s.sl[i]? with
  | none => intro z; cases z
  | some t => cases t <;> intro z <;> first | rfl | cases z
theorem forgets_get : ∀ (is : List Nat) (s : S) (i : Nat), (forgets is s).sl[i]? = if i ∈ is then (if i < s.sl.length then some .hole else none) else s.sl[i]?
  | [], s, i => by simp [forgets]
  | j :: is, s, i => by
    unfold forgets
    rw [forgets_get is _ i]
    simp only [List.length_set]
    by_cases hm : i ∈ is
    · rw [if_pos hm, if_pos (List.mem_cons_of_mem _ hm)]
    · rw [if_neg hm]
      by_cases h : i = j
      · subst h
        rw [if_pos List.mem_cons_self]
        by_cases hl : i < s.sl.length
        · rw [if_pos hl, List.getElem?_set_self hl]
        · rw [if_neg hl, List.getElem?_eq_none (by rw [List.length_set]; omega)]
      · rw [List.getElem?_set_ne (Ne.symm h), if_neg (by simp [h, hm])]
theorem RS.forgets : ∀ (is : List Nat) {s : S}, RS K en w s σ H pend → (∀ i ∈ is, NoPl i pend) → RS K en w (PL.forgets is s) σ H pend
  | [], _, r, _ => r
  | i :: is, _, r, np => RS.forgets is (r.forget i (np i List.mem_cons_self)) fun j hj => np j (List.mem_cons_of_mem _ hj)
theorem RS.slen (r : RS K en w s σ H pend) : s.sl.length = σ.length := by
  obtain ⟨F1, F2, F3, h1, _⟩ := r.rep
  rw [← h1.len, svs_len]
theorem forgets_holes {is : List Nat} (h : ∀ i ∈ is, i < s.sl.length) : holes is (PL.forgets is s) = true := by
  unfold holes
  rw [List.all_eq_true]
  intro i hi
  rw [forgets_get, if_pos hi, if_pos (h i hi)]
/-- where the own slots hold nothing, they may be wiped, or not -/
theorem RS.rewipe {σ' : L2.St} {own : List Nat} (r : RS K en w s σ H pend) (hh : holes own s = true) (hl : σ'.length = σ.length) (h : ∀ i, i ∉ own → σ'[i]? = (σ[i]? : Option (Option V))) : RS K en w s σ' H pend :=
  r.resig hl fun i t e n => h i fun hi => by
    rw [holes_at hh i hi] at e
    cases e
    exact n rfl
theorem RS.dropMid {ps qs rs : List (V × RV)} (r : RS K en w s σ H (ps ++ qs ++ rs)) : RS K en w s σ H (ps ++ rs) := by
  obtain ⟨F1, F2, F3, h1, h2, h3, nd, fr⟩ := r.rep
  obtain ⟨G12, G3, g12, g3, rfl⟩ := h3.split
  obtain ⟨G1, G2, g1, g2, rfl⟩ := g12.split
  have sub : List.Sublist (F1 ++ F2 ++ (G1 ++ G3)) (F1 ++ F2 ++ (G1 ++ G2 ++ G3)) := by
    refine (List.Sublist.refl _).append ?_
    rw [List.append_assoc]
    exact (List.Sublist.refl _).append (List.sublist_append_right _ _)
  exact ⟨⟨F1, F2, G1 ++ G3, h1, h2, g1.app g3, nd.sublist sub, fun a ha => fr a (sub.mem ha)⟩, r.live, r.frame, r.mono, r.le, r.zz⟩
/-- a tree is put at the end of a pending list -/
theorem RS.grow {D v : V} {ts : List T} {t : T} (r : RS K en w s σ H (pend ++ [(D, .tr (.lst ts))] ++ [(v, .tr t)])) :
    ∃ a vs, D = .ref a ∧ H a = some (.lst vs) ∧ vs.length = ts.length ∧ RS K en w s σ (upd H a (.lst (vs ++ [v]))) (pend ++ [(D, .tr (.lst (ts ++ [t])))]) := by
  obtain ⟨F1, F2, F3, h1, h2, h3, nd, fr⟩ := r.rep
  obtain ⟨G12, G3, g12, g3, rfl⟩ := h3.split
  obtain ⟨G1, G2, g1, g2, rfl⟩ := g12.split
  obtain ⟨a, vs, F', rfl, ha, hts, rfl⟩ := (g2.the : RepT K w H D (.lst ts) G2)
  have g3 : RepT K w H v t G3 := g3.the
  refine ⟨a, vs, rfl, ha, hts.len, ?_⟩
  have za : ¬ w.Z a := (fr a (by simp)).2
  have m : Mono w H (upd H a (.lst (vs ++ [v]))) := Mono.off (F := [a]) (fun x hx => by
    rw [List.mem_singleton.mp hx]; exact ⟨⟨_, ha, True.intro⟩, za⟩) fun x hx => upd_ne fun e => hx (by simp [e])
  have perm : (F1 ++ F2 ++ (G1 ++ (a :: F') ++ G3)).Perm (a :: (F1 ++ F2 ++ G1 ++ F' ++ G3)) := by
    simp only [List.append_assoc, List.cons_append]
    rw [← List.append_assoc F2, ← List.append_assoc F1]
    refine (List.perm_middle).trans ?_
    simp only [List.append_assoc]
    exact List.Perm.refl _
  have nd' := List.nodup_cons.mp (perm.nodup_iff.mp nd)
  have off : ∀ {L : List Addr}, (∀ x ∈ L, x ∈ F1 ++ F2 ++ G1 ++ F' ++ G3) → ∀ x ∈ L, upd H a (.lst (vs ++ [v])) x = H x := fun hL x hx => upd_ne fun e => nd'.1 (e ▸ hL x hx)
  refine ⟨⟨F1, F2, G1 ++ (a :: (F' ++ G3)), h1.step m (Lg.le_refl w) (off fun x hx => by simp [hx]), h2.step m (Lg.le_refl w) (off fun x hx => by simp [hx]),
    RepVs.app (RepVs.step m (Lg.le_refl w) (fun p _ => plOk.self p) (off fun x hx => by simp [hx]) g1) (RepVs.one (p := (V.ref a, RV.tr (.lst (ts ++ [t])))) ?_), ?_, fun x hx => fr x ?_⟩, r.live, fun x o ex => ?_, r.mono.trans m r.le, r.le, fun x z => ?_⟩
  · have h3 : RepTs K w (upd H a (.lst (vs ++ [v]))) [v] [t] G3 := ⟨G3, [], RepT.step m (Lg.le_refl w) (off fun x hx => by simp [hx]) g3, rfl, by simp⟩
    exact ⟨a, vs ++ [v], F' ++ G3, rfl, upd_same, (RepTs.step m (Lg.le_refl w) (off fun x hx => by simp [hx]) hts).app h3, rfl⟩
  · refine (List.Perm.nodup_iff ?_).mp nd
    simp only [List.append_assoc, List.cons_append]
    exact List.Perm.refl _
  · simp only [List.mem_append, List.mem_cons] at hx ⊢
    rcases hx with (q | q) | q | q | q | q <;> simp [q]
  · rcases r.frame x o ex with q | q
    · exact .inl q
    · by_cases e : x = a
      · subst e
        rcases (fr x (by simp)).1 with z | z
        · rw [z] at ex; cases ex
        · exact .inl z
      · exact .inr (by rw [upd_ne e]; exact q)
  · obtain ⟨⟨xs, e⟩, h⟩ := r.zz x z
    exact ⟨⟨xs, (m.fro x z).trans e⟩, h⟩
theorem RS.holdsP {pv : List (V × D)} (r : RS K en w s σ H pend) (h : ∀ p ∈ fzp pv, p ∈ pend) : Holds K w H pv := fun p hp => r.dat (h _ (List.mem_map.mpr ⟨p, hp, rfl⟩))
theorem comp_turns {own : List Nat} {tg : GG} {gt : GT} {ge : G} {g : TG} {gi : GI} (hdg : DG K g own tg) {Q : VK} (h : tD K (gComp own gi tg gt ge) σ H Q) : tLc (tDi K gi) g (tDt K gt) (tD K (gNp ge)) own σ H Q := by
  obtain ⟨en, w, s, pend, r, po⟩ := h
  obtain ⟨ds, s1, e1, po⟩ := Post.bind po
  split at po
  case isFalse => exact po.elim
  rename_i hh
  refine ⟨en, w, s, pend, r, ?_⟩
  rw [e1]
  intro J H1 w1 pv r1 wd D nD
  have hlen : ∀ i ∈ own, i < σ.length := fun i hi => by
    rw [← r1.slen]
    exact (List.getElem?_eq_some_iff.mp (holes_at hh i hi)).1
  have r2 : RS K en w1 s1 (wipe σ own) H1 (pend ++ fzp pv) := r1.rewipe hh (wipe_length σ own) fun i hi => by rw [wipe_get, if_neg hi]
  have r3 := r2.newList (vs := []) (ds := []) nD True.intro
  refine ⟨fun i m H => m = ds.length - i ∧ i ≤ ds.length ∧ ∃ (w : Lg) (s : S) (acc : List T), RS K en w s (wipe σ own) H (pend ++ fzp pv ++ [(.ref D, .tr (.lst acc))]) ∧ holes own s = true ∧
      Post K en σ pend Q ((compGo own tg gt ge (ds.drop i) acc s).bind fun ts s2 => .ok (.tr (.lst ts)) s2), ⟨ds.length, by simp, Nat.zero_le _, w1, s1, [], r3, hh, po⟩, ?_⟩
  rintro i m H2 ⟨rfl, hi, w2, s2, acc, r4, hh4, po4⟩
  have hold : Holds K w2 H2 pv := r4.holdsP fun p hp => by simp [hp]
  by_cases hlt : i < ds.length
  · refine .inr ⟨wd.goes i w2 H2 hlt hold, fun H' => ∃ (w : Lg) (s : S) (acc : List T), RS K en w s (wipe σ own) H' (pend ++ fzp pv ++ [(.ref D, .tr (.lst acc))]) ∧ holes own s = true ∧
      Post K en σ pend Q ((compGo own tg gt ge (ds.drop (i + 1)) acc s).bind fun ts s2 => .ok (.tr (.lst ts)) s2), fun H' h' => ⟨ds.length - (i + 1), by omega, rfl, hlt, h'⟩, fun x H3 y => ?_⟩
    obtain ⟨ext, hx⟩ := wd.yields i w2 H2 x H3 hlt hold y
    have m3 := r4.monoExt ext
    have r5 := r4.ext ext
    rw [List.drop_eq_getElem_cons hlt, compGo] at po4
    have hx := hx w2 (Lg.le_refl w2) m3 ds[i] (List.getElem?_eq_getElem hlt)
    have np : ∀ j ∈ own, NoPl j (pend ++ fzp pv ++ [(.ref D, .tr (.lst acc))]) := fun j hj => r5.noPl (holes_at hh4 j hj)
    cases e6 : tg ds[i] s2 with
    | none => rw [e6] at po4; exact po4.elim
    | some s3 =>
      rw [e6] at po4
      refine hdg en w2 s2 s3 (wipe σ own) H3 _ x ds[i] _ r5 hx np e6 fun σ3 l3 o3 r6 => ?_
      have hw3 : wipe σ3 own = wipe σ own := (wipe_eq l3 o3).trans (wipe_wipe σ own)
      refine ⟨hw3, en, w2, s3, _, r6, ?_⟩
      dsimp only at po4
      cases e7 : gt s3 with
      | exc x s => rw [e7] at po4; exact po4.elim
      | stuck => rw [e7] at po4; exact po4.elim
      | ok b s4 =>
        rw [e7] at po4
        intro H4 w4 r7
        have l3' : σ3.length = σ.length := l3.trans (wipe_length σ own)
        have back : ∀ {w5 : Lg} {s5 : S} {H5 : Hp} {acc' : List T}, RS K en w5 s5 σ3 H5 (pend ++ fzp pv ++ [(.ref D, .tr (.lst acc'))]) → RS K en w5 (PL.forgets own s5) (wipe σ own) H5 (pend ++ fzp pv ++ [(.ref D, .tr (.lst acc'))]) ∧ holes own (PL.forgets own s5) = true := fun {w5 s5 H5 acc'} r => by
          have np' : ∀ j ∈ own, NoPl j (pend ++ fzp pv ++ [(.ref D, .tr (.lst acc'))]) := fun j hj u hu => by
            refine np j hj u ?_
            simp only [List.mem_append, List.mem_singleton] at hu ⊢
            rcases hu with q | q
            · exact .inl q
            · cases q
          have hf : holes own (PL.forgets own s5) = true := forgets_holes fun j hj => by rw [r.slen, l3']; exact hlen j hj
          refine ⟨(r.forgets own np').rewipe hf (by rw [wipe_length, l3']) fun j hj => ?_, hf⟩
          rw [o3 j hj]
        cases b with
        | false =>
          simp only [R.bind_ok, Bool.false_eq_true, if_false] at po4
          obtain ⟨q1, q2⟩ := back r7
          exact ⟨w4, _, acc, q1, q2, po4⟩
        | true =>
          simp only [R.bind_ok, if_true] at po4
          cases e8 : gNp ge s4 with
          | exc x s => rw [e8] at po4; exact po4.elim
          | stuck => rw [e8] at po4; exact po4.elim
          | ok rv s5 =>
            rw [e8] at po4
            simp only [R.bind_ok] at po4
            refine tD.first r7 e8 fun yv H5 w5 r8 => ?_
            cases rv with
            | pl j => exact po4.elim
            | tr t =>
              simp only at po4
              by_cases hz : acc.length < sizeLine
              · rw [if_pos hz] at po4
                obtain ⟨a, vs, ea, hH, hvl, r9⟩ := r8.grow
                cases ea
                obtain ⟨q1, q2⟩ := back r9
                exact ⟨vs, hH, by rw [hvl]; exact hz, w5, _, acc ++ [t], q1, q2, po4⟩
              · rw [if_neg hz] at po4
                exact po4.elim
  · have e : i = ds.length := by omega
    subst e
    refine .inl ⟨wd.stops w2 H2 hold, ?_⟩
    rw [List.drop_length, compGo] at po4
    refine po4 _ H2 w2 ?_
    exact (r4.rewipe hh4 (by rw [wipe_length]) fun j hj => by rw [wipe_get, if_neg hj]).dropMid
end
def gtYes : GT := fun s => .ok true s
theorem dts_nil {X : Cx} : PTs X [] (tDt X.K gtYes) := ⟨fun pins s σ H Q I ⟨en, w, s', pend, r, po⟩ => pts_nil.run pins s σ H Q I (po H w r)⟩
section
variable {X : Cx} {elt tg iter : Expr} {ifs : List Expr} {scope : Scope} {own : List (Str × Nat)} {pos : Pos} {g : TG} {gi : GI} {gg : GG} {gt : GT} {ge : G}
theorem de_lc (hc : X.calm = true) (hN : X.N.Nodup) (hi : PI X tg iter (tDi X.K gi)) (ok : BlkOk X.N X.env.scope scope own) (hdg : DG X.K g (own.map (·.2)) gg)
    (hg : ∀ (s : Shared) (H : Hp) (C : Addr) (cl : List (Str × Addr)) (fp : List Addr), PG (X.blk s H scope (compEnvC scope cl C X.env) fp) tg g)
    (ht : ∀ (s : Shared) (H : Hp) (C : Addr) (cl : List (Str × Addr)) (fp : List Addr), PTs (X.blk s H scope (compEnvC scope cl C X.env) fp) ifs (tDt X.K gt))
    (he : ∀ (s : Shared) (H : Hp) (C : Addr) (cl : List (Str × Addr)) (fp : List Addr), PE (X.blk s H scope (compEnvC scope cl C X.env) fp) elt (tD X.K ge)) (hs : ∀ x, foldedSetIterable iter X.env x = pure x := by intro _; rfl) :
    PE X (.ListComp elt [⟨tg, iter, ifs, 0⟩] scope pos) (tD X.K (gComp (own.map (·.2)) gi gg gt ge)) :=
  PE.imp (pe_lc hc hN hi ok hg ht (fun s H C cl fp => de_np (X := X.blk s H scope (compEnvC scope cl C X.env) fp) (he s H C cl fp)) hs) fun _ _ _ h => comp_turns hdg h
end
end PL
set_option Elab.async false
set_option linter.all false
set_option maxRecDepth 100000
set_option autoImplicit false
namespace PL
open PySem PySem.Spec PyProof.Rows L2
/-! ### functions -/
inductive Rf where
  | ok (t : T) (ob : List T) | exc (x : Exc) (ob : List T) | stuck
abbrev Fn := List D → List T → Rf
abbrev Fns := Nat → Fn
def PostF (K : PySem.W.Frag) (w : Lg) (H : Hp) (F : List Addr) (Q : VK) : Rf → Prop
  | .ok t ob => ∀ v H' w' F1 F2, w.le w' → Mono w H H' → (∀ a o, H a = some o → a ∈ F ∨ H' a = some o) → RepTs K w' H' (w'.rho.map V.ref) ob F1 → RepT K w' H' v t F2 → (F1 ++ F2).Nodup →
      (∀ a ∈ F1 ++ F2, (H a = none ∨ a ∈ F) ∧ ¬ w'.Z a) → (∀ a, w'.Z a → (∃ xs, H' a = some (.lst xs)) ∧ (w.Z a ∨ H a = none ∨ a ∈ F)) → Q v H'
  | .exc _ _ => False
  | .stuck => False
/-- a def's promise: what its function of data gives -/
def spD (K : PySem.W.Frag) (f : Fn) (n : Nat) : Sp := fun vs H Q _ => ∃ (w : Lg) (ds : List D) (ob : List T) (F : List Addr), ds.length = n ∧ Reps K w H true vs ds ∧ RepTs K w H (w.rho.map V.ref) ob F ∧ F.Nodup ∧ (∀ a ∈ F, ¬ w.Z a) ∧
  (∀ a, w.Z a → ∃ xs, H a = some (.lst xs)) ∧ PostF K w H F Q (f ds ob)
/-- the function of a body -/
def fnD (k : Nat) (body : GS) : Fn := fun ds ob => match body ⟨ds.map T.fz ++ List.replicate k .hole, ob⟩ with
  | .next s => .ok (.fz .non) s.ob
  | .ret t s => .ok t s.ob
  | .exc x s => .exc x s.ob
  | _ => .stuck
theorem start_svs (N : List Str) (vs : List V) : svs (L2.start N vs) = vs ++ List.replicate (N.length - vs.length) .non := by
  unfold svs L2.start
  rw [List.map_append, List.map_map, List.map_replicate]
  congr 1
  exact List.map_id'' (fun _ => rfl) vs
theorem reps_holes {K : PySem.W.Frag} {w : Lg} {H : Hp} : ∀ (n : Nat) (vs : List V), vs.length = n → RepTs K w H vs (List.replicate n .hole) []
  | 0, [], _ => rfl
  | n + 1, _ :: vs, h => ⟨[], [], rfl, reps_holes n vs (Nat.succ.inj h), rfl⟩
theorem fn_start {K : PySem.W.Frag} {w : Lg} {H : Hp} {N : List Str} {vs : List V} {ds : List D} {ob : List T} {F : List Addr} {k : Nat} (hk : N.length = vs.length + k) (h1 : Reps K w H true vs ds) (h2 : RepTs K w H (w.rho.map V.ref) ob F) (nd : F.Nodup) (hz : ∀ a ∈ F, ¬ w.Z a)
    (zz : ∀ a, w.Z a → ∃ xs, H a = some (.lst xs)) : RS K ⟨w, H, F⟩ w ⟨ds.map T.fz ++ List.replicate k .hole, ob⟩ (L2.start N vs) H (trs []) := by
  have hn : N.length - vs.length = k := by omega
  refine ⟨⟨[], F, [], ?_, h2, rfl, by simpa using nd, fun a ha => ?_⟩, fun i t e n => ?_, fun a o e => .inr e, Mono.refl _ _, Lg.le_refl _, fun a z => ⟨zz a z, .inl z⟩⟩
  · rw [start_svs, hn]
    have := (RepTs.ofFz h1).app (reps_holes (K := K) (w := w) (H := H) k (List.replicate k .non) (List.length_replicate ..))
    simpa using this
  · have ha : a ∈ F := by simpa using ha
    exact ⟨.inr ha, hz a ha⟩
  · have hl := h1.len
    by_cases hi : i < ds.length
    · refine ⟨vs[i]'(by omega), ?_⟩
      unfold L2.start
      rw [List.getElem?_append_left (by simp; omega), List.getElem?_map, List.getElem?_eq_getElem (by omega)]
      rfl
    · rw [List.getElem?_append_right (by simp; omega)] at e
      rw [List.getElem?_replicate] at e
      split at e
      · cases e; exact absurd rfl n
      · cases e
/-- THE RULE: a def whose body is this keeps its promise -/
theorem fn_ok {P : Program} {w : World} {K : PySem.W.Frag} {mg : Str → Option Value} {base : Heap} {x qual : Str} {params : Arguments} {body : List Stmt} {scope : Scope} {kws : List (Str × V)} {f : Addr} {fd : FuncData} {N ps : List Str} {k n : Nat} {g : GS}
    (F : FunD K x qual params body scope [] kws f fd) (Sc : FnScope N ps scope) (hn : N.length = ps.length + n)
    (hbody : ∀ (X : Cx), X.K = K → X.prog = P → X.w = w → X.mg = mg → X.base = base → X.N = N → X.env.scope = scope → X.calm = true → (∀ x, X.fn x = true) → (X.xe = fun _ _ => False) → Room k X.A → PSs X body (tDs K g)) :
    FnOk P w K mg base CX0 (k + 1) f fd ps (spD K (fnD n g) ps.length) := by
  refine F.ok Sc (fun vs H Q E ⟨w, ds, ob, _, h1, h2, _⟩ => by rw [← h1, h2.len]) (fun cdv A outer s H vs Q E hr h => ⟨tDs K g, PSs.nox (hbody _ rfl rfl rfl rfl rfl rfl rfl rfl (fun _ => rfl) rfl hr), ?_⟩)
  obtain ⟨w, ds, ob, F, h1, h2, h3, nd, hz, zz, po⟩ := h
  refine ⟨⟨w, H, F⟩, w, _, [], fn_start (k := n) (by rw [hn, h2.len, h1]) h2 h3 nd hz zz, ?_⟩
  have fin : ∀ {t : T} {s' : S} {v : V} {σ' : L2.St} {H' : Hp} {w' : Lg}, PostF K w H F Q (.ok t s'.ob) → RS K ⟨w, H, F⟩ w' s' σ' H' (trs [] ++ [(v, .tr t)]) → Q v H' := fun {t s' v σ' H' w'} po r => by
    obtain ⟨F1, F2, F3, g1, g2, g3, nd', fr⟩ := r.rep
    have g3 : RepT K w' H' v t F3 := g3.the
    refine po v H' w' F2 F3 r.le r.mono r.frame g2 g3 ?_ (fun a ha => fr a ?_) r.zz
    · rw [List.append_assoc] at nd'
      exact (List.nodup_append.mp nd').2.1
    · rw [List.append_assoc]; exact List.mem_append_right _ ha
  unfold fnD at po
  cases e : g ⟨ds.map T.fz ++ List.replicate n .hole, ob⟩ with
  | next s' =>
    rw [e] at po
    exact fun σ' H' w' r => fin po (r.pushD (v := .non) (d := .non) rfl)
  | ret t s' =>
    rw [e] at po
    exact fun v σ' H' w' r => fin po r
  | brk s' => rw [e] at po; exact po.elim
  | cont s' => rw [e] at po; exact po.elim
  | exc x s' => rw [e] at po; exact po.elim
  | stuck => rw [e] at po; exact po.elim
/-! ### the context of a body -/
structure FI where
  name : Str
  ps : List Str
structure Ctx (K : PySem.W.Frag) (I : List FI) (free : List Str) (F : Fns) (k : Nat) (N : List Str) (sc : Scope) (st : Str → Bool) (X : Cx) : Prop where
  K_ : X.K = K
  N_ : X.N = N
  sc_ : X.env.scope = sc
  nd : N.Nodup
  calm : X.calm = true
  fn : ∀ x, st x = true → X.fn x = true ∨ X.env.scope.names.lookup x = some .local
  own : PassesOwn (model X.prog X.w) X.A X.env X.xe
  room : Room k X.A
  free_ : ∀ x ∈ free, X.mg x = none
  fns : ∀ (i : Nat) (d : FI), I[i]? = some d → ∃ f fd, X.mg d.name = some (.ref f) ∧ PySem.W.keepIn X.K (.ref f) = true ∧ Binds X.K fd d.ps [] ∧ FnOk X.prog X.w X.K X.mg X.base CX0 k f fd d.ps (spD X.K (F i) d.ps.length) ∧ f = He.ga X.K d.name
def gCall (f : Fn) (gs : GA) : G := fun s => (gs s).bind fun rvs s1 => match dats rvs with
  | some ds => match f ds s1.ob with
    | .ok t ob => .ok (.tr t) { s1 with ob := ob }
    | .exc x ob => .exc x { s1 with ob := ob }
    | .stuck => .stuck
  | none => .stuck
theorem call_of {K : PySem.W.Frag} {f : Fn} {gs : GA} {n : Nat} {E : XK} {σ : L2.St} {H : Hp} {Q : VK} (hn : ∀ (s : S) rvs s1, gs s = .ok rvs s1 → rvs.length = n) (h : tD K (gCall f gs) σ H Q) : tCall (spD K f n) [] E (tDa K gs) σ H Q := by
  obtain ⟨en, w, s, pend, r, po⟩ := h
  obtain ⟨rvs, s1, e1, po⟩ := Post.bind po
  refine tDa.first r e1 fun vs H1 w1 hl r1 => ?_
  have hn1 := hn s rvs s1 e1
  cases e2 : dats rvs with
  | none => rw [e2] at po; exact po.elim
  | some ds =>
    rw [e2] at po
    dsimp only at po
    have eq := dats_eq e2
    subst eq
    rw [List.length_map] at hl hn1
    have hD := r1.argsD hl
    have r2 := r1.drop
    obtain ⟨F1, F2, F3, h1, h2, h3, nd, fr⟩ := r2.rep
    have ndo : F2.Nodup := (List.nodup_append.mp (List.nodup_append.mp nd).1).2.1
    rw [List.append_nil]
    refine ⟨w1, ds, s1.ob, F2, hn1, hD, h2, ndo, fun a ha => (fr a (by simp [ha])).2, fun a z => (r2.zz a z).1, ?_⟩
    cases e3 : f ds s1.ob with
    | stuck => rw [e3] at po; exact po.elim
    | exc x ob => rw [e3] at po; exact po.elim
    | ok t ob =>
      rw [e3] at po
      intro v H' w' G1 G2 l m keep g1 g2 nd' fr' zz'
      refine po v H' w' ?_
      have perm : (F1 ++ F2 ++ F3).Perm (F2 ++ (F1 ++ F3)) := by
        rw [List.append_assoc]
        exact List.perm_append_comm_assoc F1 F2 F3
      have ndp := List.nodup_append.mp (perm.nodup_iff.mp nd)
      have off2 : ∀ a ∈ F1 ++ F3, a ∉ F2 := fun a ha h => ndp.2.2 a h a ha rfl
      have th : ∀ a ∈ F1 ++ F3, ∃ o, H1 a = some o := fun a ha => by
        rcases List.mem_append.mp ha with q | q
        · obtain ⟨o, e, _⟩ := h1.there a q; exact ⟨o, e⟩
        · obtain ⟨o, e, _⟩ := h3.there a q; exact ⟨o, e⟩
      have same : ∀ a ∈ F1 ++ F3, H' a = H1 a := fun a ha => by
        obtain ⟨o, e⟩ := th a ha
        rw [e]
        exact (keep a o e).resolve_left (off2 a ha)
      have noZ : ∀ a ∈ F1 ++ F3, ¬ w'.Z a := fun a ha z => by
        rcases (zz' a z).2 with q | q | q
        · refine (fr a ?_).2 q
          exact perm.mem_iff.mpr (List.mem_append_right _ ha)
        · obtain ⟨o, e⟩ := th a ha
          rw [q] at e; cases e
        · exact off2 a ha q
      have okE : ∀ a, (H1 a = none ∨ a ∈ F2) → en.He a = none ∨ a ∈ en.Pf := fun a h => by
        rcases h with q | q
        · exact r2.newOk q
        · exact (fr a (by simp [q])).1
      refine ⟨⟨F1, G1, F3 ++ G2, h1.step m l (fun a ha => same a (List.mem_append_left _ ha)), g1, RepVs.app (RepVs.step m l (fun p _ => plOk.self p) (fun a ha => same a (List.mem_append_right _ ha)) h3) (RepVs.one (p := (v, RV.tr t)) g2), ?_, fun a ha => ?_⟩,
        r2.live, fun a o e => ?_, r2.mono.trans m r2.le, Lg.le_trans r2.le l, fun a z => ⟨(zz' a z).1, ?_⟩⟩
      · have p2 : (F1 ++ G1 ++ (F3 ++ G2)).Perm ((F1 ++ F3) ++ (G1 ++ G2)) := by
          simp only [List.append_assoc]
          exact List.Perm.append_left F1 (List.perm_append_comm_assoc G1 F3 G2)
        refine p2.nodup_iff.mpr (List.nodup_append.mpr ⟨ndp.2.1, nd', fun a ha b hb e => ?_⟩)
        subst e
        rcases (fr' a hb).1 with q | q
        · obtain ⟨o, e⟩ := th a ha
          rw [q] at e; cases e
        · exact off2 a ha q
      · have ha : a ∈ (F1 ++ F3) ∨ a ∈ G1 ++ G2 := by
          simp only [List.mem_append] at ha ⊢
          rcases ha with (q | q) | q | q <;> simp [q]
        rcases ha with q | q
        · exact ⟨(fr a (perm.mem_iff.mpr (List.mem_append_right _ q))).1, noZ a q⟩
        · exact ⟨okE a (fr' a q).1, (fr' a q).2⟩
      · rcases r2.frame a o e with q | q
        · exact .inl q
        · rcases keep a o q with z | z
          · rcases (fr a (by simp [z])).1 with y | y
            · rw [y] at e; cases e
            · exact .inl y
          · exact .inr z
      · rcases (zz' a z).2 with q | q | q
        · exact (r2.zz a q).2
        · exact .inr (r2.newOk q)
        · exact .inr (fr a (by simp [q])).1
theorem aCons_len {g : G} {gs : GA} {n : Nat} (h : ∀ (s : S) rvs s1, gs s = .ok rvs s1 → rvs.length = n) : ∀ (s : S) rvs s1, aCons g gs s = .ok rvs s1 → rvs.length = n + 1 := fun s rvs s1 e => by
  unfold aCons at e
  cases q : g s with
  | exc x s => rw [q] at e; cases e
  | stuck => rw [q] at e; cases e
  | ok rv s2 =>
    rw [q] at e
    simp only [R.bind_ok] at e
    cases q2 : gs s2 with
    | exc x s => rw [q2] at e; cases e
    | stuck => rw [q2] at e; cases e
    | ok r s3 =>
      rw [q2] at e
      cases e
      rw [List.length_cons, h s2 r s1 q2]
theorem aNil_len : ∀ (s : S) rvs s1, aNil s = .ok rvs s1 → rvs.length = 0 := fun s rvs s1 e => by cases e; rfl
section
variable {K : PySem.W.Frag} {I : List FI} {free : List Str} {F : Fns} {k : Nat} {N : List Str} {sc : Scope} {st : Str → Bool} {X : Cx}
theorem cu (c : Ctx K I free F k N sc st X) : X.A.units + 65 < cLine := by have := c.room.un; omega
theorem cGl (c : Ctx K I free F k N sc st X) {x : Str} (h : sc.names.lookup x = some .globalImplicit) : Gl X x := by
  show X.env.scope.names.lookup x = _
  rw [c.sc_]; exact h
theorem cVis (c : Ctx K I free F k N sc st X) {x : Str} (h : sc.names.lookup x = some .local ∨ sc.names.lookup x = some .cell ∨ sc.names.lookup x = some .free) : Vis X.env.scope x := by
  rw [c.sc_]; exact h
theorem cv (c : Ctx K I free F k N sc st X) (i : Nat) {x : Str} {pos : Pos} (hN : N[i]? = some x) (hv : sc.names.lookup x = some .local ∨ sc.names.lookup x = some .cell ∨ sc.names.lookup x = some .free) (hd : (x == ("__debug__" : Str)) = false) (hcd : (x == ("__classdict__" : Str)) = false) :
    PE X (.Name x pos) (tD X.K (gVar i)) := de_var i (by rw [c.N_]; exact hN) (cVis c hv) hd hcd
theorem cCall (c : Ctx K I free F k N sc st X) (i : Nat) {x : Str} {ps : List Str} {e : Expr} {es : List Expr} {gs : GA} {p pos : Pos} (hi : I[i]? = some ⟨x, ps⟩) (hg : sc.names.lookup x = some .globalImplicit) (ha : PA X (e :: es) (tDa X.K gs))
    (hn : ∀ (s : S) rvs s1, gs s = .ok rvs s1 → rvs.length = ps.length) (hdb : (x == ("__debug__" : Str)) = false) (he : starEach (e :: es) X.env = (false, eval e X.env) :: starEach es X.env) (hpl : (backTo pos (starEach es X.env)).any (·.1) = false) :
    PE X (.Call (.Name x p) (e :: es) [] pos) (tD X.K (gCall (F i) gs)) := by
  obtain ⟨f, fd, h1, h2, h3, h4, _⟩ := c.fns i ⟨x, ps⟩ hi
  exact PE.imp (pe_call (dvs := []) (ds := []) h4 c.room (cGl c hg) h1 h2 h3 .nil pass0 ha hdb he hpl) fun _ _ _ h => call_of hn h
theorem cCall0 (c : Ctx K I free F k N sc st X) (i : Nat) {x : Str} {p pos : Pos} (hi : I[i]? = some ⟨x, []⟩) (hg : sc.names.lookup x = some .globalImplicit) (hdb : (x == ("__debug__" : Str)) = false) :
    PE X (.Call (.Name x p) [] [] pos) (tD X.K (gCall (F i) aNil)) := by
  obtain ⟨f, fd, h1, h2, h3, h4, _⟩ := c.fns i ⟨x, []⟩ hi
  refine PE.imp (pe_call0 (dvs := []) (ds := []) h4 c.room (cGl c hg) h1 h2 h3 .nil pass0 hdb) fun σ H Q h => ?_
  obtain ⟨en, w, s, pend, r, po⟩ := call_of (E := E0) (n := 0) aNil_len h
  exact po [] H w rfl (by simpa using r)
/-- the names that a block stores -/
def stOf (scope : Scope) (x : Str) : Bool := scope.names.lookup x == some .local || scope.names.lookup x == some .cell
/-- the context of a comprehension's block -/
theorem cBlk (c : Ctx K I free F k N sc st X) (scope : Scope) (s : Shared) (H : Hp) (C : Addr) (cl : List (Str × Addr)) (fp : List Addr) :
    Ctx K I free F k N (relS scope sc) (stOf scope) (X.blk s H scope (compEnvC scope cl C X.env) fp) := by
  have hs : (compEnvC scope cl C X.env).scope = relS scope X.env.scope := rfl
  refine ⟨c.K_, c.N_, by show (compEnvC scope cl C X.env).scope = _; rw [hs, c.sc_], c.nd, c.calm, fun x hx => ?_, PassesOwn.never, c.room, c.free_, c.fns⟩
  rcases (Bool.or_eq_true _ _).mp hx with h | h
  · refine .inr ?_
    show (relS scope X.env.scope).names.lookup x = _
    exact lookup_relS_keep (by intro z; cases z) (eq_of_beq h)
  · exact .inl h
end
end PL
set_option Elab.async false
set_option linter.all false
set_option maxRecDepth 100000
set_option autoImplicit false
namespace PL
open PySem PySem.Spec PyProof.Rows L2
/-! ### statements -/
def sNext : GS := fun s => .next s
def sSeq (g h : GS) : GS := fun s => match g s with
  | .next s1 => h s1
  | .ret t s1 => .ret t s1
  | .brk s1 => .brk s1
  | .cont s1 => .cont s1
  | .exc x s1 => .exc x s1
  | .stuck => .stuck
def sIf (c : GT) (g h : GS) : GS := fun s => (c s).bindO fun b s1 => if b then g s1 else h s1
def sAsg (i : Nat) (g : G) : GS := fun s => (gNp g s).bindO fun rv s1 => match rv with
  | .tr t => if i < s1.sl.length then .next { s1 with sl := s1.sl.set i t } else .stuck
  | .pl _ => .stuck
def sAsgT (tg : GG) (g : G) : GS := fun s => (gFz g s).bindO fun rv s1 => match rv with
  | .tr (.fz d) => match tg d s1 with
    | some s2 => .next s2
    | none => .stuck
  | _ => .stuck
def sPar (i j : Nat) (gs : GA) : GS := fun s => (gs s).bindO fun rvs s1 => match rvs with
  | [.tr t, .tr u] => if i < s1.sl.length ∧ j < s1.sl.length then .next { s1 with sl := (s1.sl.set j u).set i t } else .stuck
  | _ => .stuck
def sDrop (g : G) : GS := fun s => (g s).bindO fun _ s1 => .next s1
def retv (rv : RV) (s : S) : O := match rv with
  | .tr t => .ret t s
  | .pl i => match s.sl[i]? with
    | some .hole => .stuck
    | some t => .ret t { s with sl := s.sl.set i .hole }
    | none => .stuck
@[simp] theorem retv_tr (t : T) (s : S) : retv (.tr t) s = .ret t s := rfl
def sRet (g : G) : GS := fun s => (g s).bindO retv
def sRetN : GS := fun s => .ret (.fz .non) s
def sBrk : GS := fun s => .brk s
def sCont : GS := fun s => .cont s
def sForget (is : List Nat) (g : GS) : GS := fun s => g (forgets is s)
def forGo (tg : GG) (body : GS) : List D → S → O
  | [], s => .next s
  | d :: ds, s => match tg d s with
    | none => .stuck
    | some s1 => match body s1 with
      | .next s2 => forGo tg body ds s2
      | .cont s2 => forGo tg body ds s2
      | .brk s2 => .next s2
      | .ret t s2 => .ret t s2
      | .exc x s2 => .exc x s2
      | .stuck => .stuck
def sFor (gi : GI) (tg : GG) (body : GS) : GS := fun s => (gi s).bindO fun ds s1 => forGo tg body ds s1
def whileGo (c : GT) (body : GS) : Nat → S → O
  | 0, _ => .stuck
  | n + 1, s => (c s).bindO fun b s1 => if b then match body s1 with
      | .next s2 => whileGo c body n s2
      | .cont s2 => whileGo c body n s2
      | .brk s2 => .next s2
      | .ret t s2 => .ret t s2
      | .exc x s2 => .exc x s2
      | .stuck => .stuck
    else .next s1
def sWhile (n : Nat) (c : GT) (body : GS) : GS := fun s => whileGo c body n s
def sAug (i : Nat) (p : S → RV → RV → R RV) (g : G) : GS := fun s => (gOp p (gVar i) g s).bindO fun rv s1 => match rv with
  | .tr t => if i < s1.sl.length then .next { s1 with sl := s1.sl.set i t } else .stuck
  | .pl _ => .stuck
section
variable {X : Cx} {e : Expr} {es : List Expr} {g h : GS} {ga : G} {gs : GA} {gt : GT} {pos : Pos} {st : Stmt} {rest : List Stmt}
theorem tDs.seq {K : PySem.W.Frag} {D : Ends} {σ : L2.St} {H : Hp} (q : tDs K (sSeq g h) D σ H) : tSeq (tDs K g) (tDs K h) D σ H := by
  obtain ⟨en, w, s, pend, r, po⟩ := q
  refine ⟨en, w, s, pend, r, ?_⟩
  unfold sSeq at po
  cases e : g s with
  | next s1 => rw [e] at po; exact fun σ H w r => ⟨en, w, s1, pend, r, po⟩
  | ret t s1 => rw [e] at po; exact po
  | brk s1 => rw [e] at po; exact po
  | cont s1 => rw [e] at po; exact po
  | exc x s1 => rw [e] at po; exact po
  | stuck => rw [e] at po; exact po
theorem dss_nil : PSs X [] (tDs X.K sNext) := PSs.imp pss_nil fun D σ H ⟨en, w, s, pend, r, po⟩ => po σ H w r
theorem dss_cons (h1 : PS X st (tDs X.K g)) (h2 : PSs X rest (tDs X.K h)) : PSs X (st :: rest) (tDs X.K (sSeq g h)) := PSs.imp (pss_cons h1 h2) fun _ _ _ q => q.seq
theorem dss_one (h1 : PS X st (tDs X.K g)) : PSs X [st] (tDs X.K g) := pss_one h1
theorem dss_forget (is : List Nat) (h : PSs X rest (tDs X.K g)) : PSs X rest (tDs X.K (sForget is g)) := PSs.imp h fun D σ H ⟨en, w, s, pend, r, po⟩ => ⟨en, w, forgets is s, pend, r.forgets is fun i _ => NoPl.trs i pend, po⟩
theorem ds_pass : PS X (.Pass pos) (tDs X.K sNext) := PS.imp ps_pass fun D σ H ⟨en, w, s, pend, r, po⟩ => po σ H w r
theorem ds_break : PS X (.Break pos) (tDs X.K sBrk) := PS.imp ps_break fun D σ H ⟨en, w, s, pend, r, po⟩ => po σ H w r
theorem ds_continue : PS X (.Continue pos) (tDs X.K sCont) := PS.imp ps_continue fun D σ H ⟨en, w, s, pend, r, po⟩ => po σ H w r
theorem ds_if {c : Expr} {a b : List Stmt} (hc : PT X c (tDt X.K gt)) (ha : PSs X a (tDs X.K g)) (hb : PSs X b (tDs X.K h)) : PS X (.If c a b pos) (tDs X.K (sIf gt g h)) :=
  PS.imp (ps_if hc ha hb) fun D σ H ⟨en, w, s, pend, r, po⟩ => by
    obtain ⟨b, s1, e1, po⟩ := PostS.bind po
    refine tDt.first r e1 fun H1 w1 r1 => ?_
    cases b with
    | true => exact ⟨en, w1, s1, pend, r1, po⟩
    | false => exact ⟨en, w1, s1, pend, r1, po⟩
theorem asg_of {K : PySem.W.Frag} {i : Nat} {D : Ends} {σ : L2.St} {H : Hp} (q : tDs K (sAsg i ga) D σ H) : tAsg (tD K (gNp ga)) (gName i) D σ H := by
  obtain ⟨en, w, s, pend, r, po⟩ := q
  obtain ⟨rv, s1, e1, po⟩ := PostS.bind po
  refine tD.first r e1 fun v H1 w1 r1 => ?_
  cases rv with
  | pl j => exact po.elim
  | tr t =>
    dsimp only at po
    split at po
    · rename_i hi
      exact po _ H1 w1 (r1.store hi (NoPl.trs i pend))
    · exact po.elim
theorem ds_asg {i : Nat} {x : Str} {pos' : Pos} (hN : X.N.Nodup) (hi : X.N[i]? = some x) (hx : Loc X.env.scope x) (he : PE X e (tD X.K ga)) (hs : swapsWith e (some (.Name x pos')) pos.line X.env = pure false) (hf : X.fn x = true ∨ X.env.scope.names.lookup x = some .local) :
    PS X (.Assign [.Name x pos'] e pos) (tDs X.K (sAsg i ga)) := PS.imp (ps_set hN hi hx (de_np he) hs hf) fun _ _ _ q => asg_of q
theorem ds_asgT {tg : Expr} {t : TG} {is : List Nat} {gg : GG} (hg : PG X tg t) (hd : DG X.K t is gg) (he : PE X e (tD X.K ga)) (hs : swapsWithSole [tg] e pos.line X.env = pure false) (hw : swappedStores [tg] e X.env = pure none)
    (h1 : (assignEach [tg] X.env).map (·.2) = [assign tg X.env]) : PS X (.Assign [tg] e pos) (tDs X.K (sAsgT gg ga)) :=
  PS.imp (ps_asg (de_fz he) hg hs hw h1) fun D σ H ⟨en, w, s, pend, r, po⟩ => by
    obtain ⟨rv, s1, e1, po⟩ := PostS.bind po
    refine tD.first r e1 fun v H1 w1 r1 => ?_
    split at po
    · rename_i d
      split at po
      · rename_i s2 e2
        exact hd en w1 s1 s2 σ H1 (trs pend) v d _ r1.drop (r1.dat (v := v) (d := d) (by simp)) (fun i _ => NoPl.trs i pend) e2 fun σ' _ _ r2 => po σ' H1 w1 r2
      · exact po.elim
    · exact po.elim
theorem ds_par {i j : Nat} {x y : Str} {a b : Expr} {px py pt : Pos} {kt k2 pt2} (hc : X.calm = true) (hN : X.N.Nodup) (hi : X.N[i]? = some x) (hj : X.N[j]? = some y) (hij : i ≠ j)
    (hx : X.env.scope.names.lookup x = some .local) (hy : X.env.scope.names.lookup y = some .local) (ha : PA X [a, b] (tDa X.K gs))
    (hw : swappedStores [.Tuple [.Name x px, .Name y py] kt pt] (.Tuple [a, b] k2 pt2) X.env = pure (some [x, y]))
    (hs : swapsWithSole [.Tuple [.Name x px, .Name y py] kt pt] (.Tuple [a, b] k2 pt2) pos.line X.env = pure false) :
    PS X (.Assign [.Tuple [.Name x px, .Name y py] kt pt] (.Tuple [a, b] k2 pt2) pos) (tDs X.K (sPar i j gs)) :=
  PS.imp (ps_par hc hN hi hj hij hx hy ha hw hs) fun D σ H ⟨en, w, s, pend, r, po⟩ => by
    obtain ⟨rvs, s1, e1, po⟩ := PostS.bind po
    refine tDa.first r e1 fun vs H1 w1 hl r1 => ?_
    split at po
    · rename_i t u
      obtain ⟨v, v2, rfl⟩ := two_of hl
      split at po
      · rename_i hlt
        refine ⟨v, v2, rfl, ?_⟩
        have r1' : RS X.K en w1 s1 σ H1 (trs (pend ++ [(v, t)]) ++ [(v2, .tr u)]) := by simpa [trs] using r1
        have r2 := r1'.store hlt.2 (NoPl.trs j _)
        have r2' : RS X.K en w1 { s1 with sl := s1.sl.set j u } (σ.set j (some v2)) H1 (trs pend ++ [(v, .tr t)]) := by simpa [trs] using r2
        have r3 := r2'.store (i := i) (by rw [List.length_set]; exact hlt.1) (NoPl.trs i _)
        rw [List.set_comm _ _ hij]
        exact po _ H1 w1 r3
      · exact po.elim
    · exact po.elim
theorem ds_expr (he : PE X e (tD X.K ga)) (hs : swapsWith e none pos.line X.env = pure false) : PS X (.Expr e pos) (tDs X.K (sDrop ga)) :=
  PS.imp (ps_expr he hs) fun D σ H ⟨en, w, s, pend, r, po⟩ => by
    obtain ⟨rv, s1, e1, po⟩ := PostS.bind po
    exact tD.first r e1 fun v H1 w1 r1 => po σ H1 w1 r1.drop
/-- what a slot holds is moved out -/
theorem RS.take {K : PySem.W.Frag} {en : En} {w : Lg} {s : S} {σ : L2.St} {H : Hp} {pend : List (V × RV)} {v : V} {i : Nat} {t : T} (r : RS K en w s σ H (pend ++ [(v, .pl i)])) (e : s.sl[i]? = some t) (np : NoPl i pend) :
    RS K en w { s with sl := s.sl.set i .hole } σ H (pend ++ [(v, .tr t)]) := by
  obtain ⟨F1, F2, F3, h1, h2, h3, nd, fr⟩ := r.rep
  obtain ⟨G1, G2, g1, g2, rfl⟩ := h3.split
  obtain ⟨e1, _, e3⟩ := g2.the
  subst e3
  obtain ⟨v', A1, A2, A3, ev, hT, rfl, up⟩ := RepTs.at h1 e
  have e1 : (svs σ)[i]? = some v := e1
  rw [e1] at ev
  cases ev
  have q1 := up w H v .hole [] (Lg.le_refl w) (Mono.refl w H) (fun _ _ => rfl) rfl
  have hsv : (svs σ).set i v = svs σ := by
    obtain ⟨hi, q⟩ := List.getElem?_eq_some_iff.mp e1
    rw [← q, List.set_getElem_self]
  rw [hsv] at q1
  have perm : (A1 ++ [] ++ A3 ++ F2 ++ (G1 ++ A2)).Perm (A1 ++ A2 ++ A3 ++ F2 ++ (G1 ++ [])) := by
    simp only [List.append_nil, List.append_assoc]
    refine List.Perm.append_left A1 ?_
    refine List.Perm.trans ?_ (List.perm_append_comm_assoc A3 A2 _)
    refine List.Perm.append_left A3 ?_
    refine List.Perm.trans ?_ (List.perm_append_comm_assoc F2 A2 _)
    exact List.Perm.append_left F2 List.perm_append_comm
  refine ⟨⟨A1 ++ [] ++ A3, F2, G1 ++ A2, q1, h2, RepVs.app (RepVs.step (Mono.refl w H) (Lg.le_refl w) (fun p hp => ?_) (fun _ _ => rfl) g1) (RepVs.one (p := (v, RV.tr t)) hT), perm.nodup_iff.mpr nd, fun a ha => fr a (perm.mem_iff.mp ha)⟩, fun j t' ej hj => ?_, r.frame, r.mono, r.le, r.zz⟩
  · have q := plOk_off (sv := svs σ) (sl := s.sl) (v := v) (t := .hole) np hp
    rw [hsv] at q
    exact q
  · by_cases q : j = i
    · subst q
      rw [List.getElem?_set_self (List.getElem?_eq_some_iff.mp e).1] at ej
      cases ej
      exact absurd rfl hj
    · rw [List.getElem?_set_ne (Ne.symm q)] at ej
      exact r.live j t' ej hj
theorem ds_ret (he : PE X e (tD X.K ga)) : PS X (.Return (some e) pos) (tDs X.K (sRet ga)) := PS.imp (ps_ret he) fun D σ H ⟨en, w, s, pend, r, po⟩ => by
  obtain ⟨rv, s1, e1, po⟩ := PostS.bind po
  refine tD.first r e1 fun v H1 w1 r1 => ?_
  cases rv with
  | tr t => exact po v σ H1 w1 r1
  | pl i =>
    unfold retv at po
    dsimp only at po
    split at po
    · exact po.elim
    · rename_i t hn e2
      exact po v σ H1 w1 (r1.take e2 (NoPl.trs i pend))
    · exact po.elim
theorem ds_retN : PS X (.Return none pos) (tDs X.K sRetN) := PS.imp ps_retN fun D σ H ⟨en, w, s, pend, r, po⟩ => po .non σ H w (r.pushD rfl)
theorem ds_aug {i : Nat} {x : Str} {op : Operator} {r2 : R2} {p : S → RV → RV → R RV} {pos' : Pos} (hN : X.N.Nodup) (hi : X.N[i]? = some x) (hx : Loc X.env.scope x) (he : PE X e (tD X.K ga)) (ho : OpR X (inplaceOp op) r2) (hS : OpS X.K r2 p) (hf : X.fn x = true ∨ X.env.scope.names.lookup x = some .local) :
    PS X (.AugAssign (.Name x pos') op e pos) (tDs X.K (sAug i p ga)) :=
  PS.imp (ps_aug (ti := r2) hN hi hx he ho hf) fun D σ H ⟨en, w, s, pend, r, po⟩ => by
    obtain ⟨rv, s3, e3, po⟩ := PostS.bind po
    have q : tD X.K (gOp p (gVar i) ga) σ H (fun z H2 => D.nx (σ.set i (some z)) H2) := by
      refine tD.first r e3 fun z H3 w3 r3 => ?_
      cases rv with
      | pl j => exact po.elim
      | tr t =>
        dsimp only at po
        split at po
        · rename_i hi
          exact po _ H3 w3 (r3.store hi (NoPl.trs i pend))
        · exact po.elim
    have q2 := tOp_of hS q
    have key : tVar i σ H (fun x H1 => tD X.K ga σ H1 fun y H2 => r2 x y H2 fun z H3 => D.nx (σ.set i (some z)) H3) := by
      obtain ⟨en', w', s', pend', r', po'⟩ := q2
      cases e : s'.sl[i]? with
      | none => rw [gVar, e] at po'; exact po'.elim
      | some t =>
        have k2 : t ≠ T.hole → ∃ v, σ[i]? = some (some v) ∧ (svs σ)[i]? = some v ∧ ∃ F, RepT X.K w' H v t F := fun hn => by
          obtain ⟨v, ev⟩ := r'.live i t e hn
          obtain ⟨F1, F2, F3, h1, _⟩ := r'.rep
          obtain ⟨v', A1, A2, A3, e4, hT, _⟩ := RepTs.at h1 e
          rw [svs_get ev] at e4
          cases e4
          exact ⟨v, ev, svs_get ev, A2, hT⟩
        cases t with
        | hole => rw [gVar, e] at po'; exact po'.elim
        | fz d =>
          obtain ⟨v, e1, e2, F, hT⟩ := k2 (by intro z; cases z)
          rw [gVar, e] at po'
          exact ⟨v, e1, po' v H w' (r'.pushD hT.1)⟩
        | lst ts =>
          obtain ⟨v, e1, e2, F, hT⟩ := k2 (by intro z; cases z)
          rw [gVar, e] at po'
          exact ⟨v, e1, po' v H w' (r'.push (p := (v, RV.pl i)) ⟨e2, ⟨_, e, by intro z; cases z⟩, rfl⟩)⟩
        | dct ks ts =>
          obtain ⟨v, e1, e2, F, hT⟩ := k2 (by intro z; cases z)
          rw [gVar, e] at po'
          exact ⟨v, e1, po' v H w' (r'.push (p := (v, RV.pl i)) ⟨e2, ⟨_, e, by intro z; cases z⟩, rfl⟩)⟩
    exact key
/-! loops -/
theorem ds_for {tg iter : Expr} {body : List Stmt} {gi : GI} {t : TG} {is : List Nat} {gg : GG} (hp : PassesOwn (model X.prog X.w) X.A X.env X.xe) (hc : X.calm = true) (hi : PI X tg iter (tDi X.K gi)) (hg : PG X tg t) (hd : DG X.K t is gg) (hb : PSs X body (tDs X.K g))
    (hs : ∀ x, foldedSetIterable iter X.env x = pure x) : PS X (.For tg iter body [] pos) (tDs X.K (sFor gi gg g)) :=
  PS.imp (ps_for hp hc hi hg hb hs) fun D σ H ⟨en, w, s, pend, r, po⟩ => by
    obtain ⟨ds, s1, e1, po⟩ := PostS.bind po
    refine ⟨en, w, s, trs pend, r, ?_⟩
    rw [e1]
    intro J H1 w1 pv r1 wd
    have fe : trs pend ++ fzp pv = trs (pend ++ pv.map fun p => (p.1, T.fz p.2)) := by simp [trs, fzp]
    refine ⟨fun i m σ H => m = ds.length - i ∧ i ≤ ds.length ∧ ∃ (w : Lg) (s : S), RS X.K en w s σ H (trs pend ++ fzp pv) ∧ PostS X.K en pend D (forGo gg g (ds.drop i) s), ⟨ds.length, by simp, Nat.zero_le _, w1, s1, r1, po⟩, ?_⟩
    rintro i m σ2 H2 ⟨rfl, hi, w2, s2, r2, po2⟩
    have hold : Holds X.K w2 H2 pv := r2.holdsP fun p hp => by simp [hp]
    by_cases hlt : i < ds.length
    · refine .inr ⟨wd.goes i w2 H2 hlt hold, fun σ' H' => ∃ (w : Lg) (s : S), RS X.K en w s σ' H' (trs pend ++ fzp pv) ∧ PostS X.K en pend D (forGo gg g (ds.drop (i + 1)) s), fun σ' H' h' => ⟨ds.length - (i + 1), by omega, rfl, hlt, h'⟩, fun x H3 y => ?_⟩
      obtain ⟨ext, hx⟩ := wd.yields i w2 H2 x H3 hlt hold y
      have m3 := r2.monoExt ext
      have r3 := r2.ext ext
      rw [List.drop_eq_getElem_cons hlt, forGo] at po2
      have hx := hx w2 (Lg.le_refl w2) m3 ds[i] (List.getElem?_eq_getElem hlt)
      cases e6 : gg ds[i] s2 with
      | none => rw [e6] at po2; exact po2.elim
      | some s3 =>
        rw [e6] at po2
        dsimp only at po2
        refine hd en w2 s2 s3 σ2 H3 _ x ds[i] _ r3 hx (fun j _ => by rw [fe]; exact NoPl.trs j _) e6 fun σ3 _ _ r4 => ?_
        refine ⟨en, w2, s3, pend ++ pv.map fun p => (p.1, T.fz p.2), by rw [← fe]; exact r4, ?_⟩
        cases e7 : g s3 with
        | next s4 => rw [e7] at po2; exact fun σ5 H5 w5 r5 => ⟨w5, s4, by rw [fe]; exact r5, po2⟩
        | cont s4 => rw [e7] at po2; exact fun σ5 H5 w5 r5 => ⟨w5, s4, by rw [fe]; exact r5, po2⟩
        | brk s4 => rw [e7] at po2; exact fun σ5 H5 w5 r5 => po2 σ5 H5 w5 (by rw [← fe] at r5; exact r5.drop)
        | ret t s4 => rw [e7] at po2; exact fun v σ5 H5 w5 r5 => po2 v σ5 H5 w5 (by rw [← fe] at r5; exact r5.dropMid)
        | exc x s4 => rw [e7] at po2; exact po2.elim
        | stuck => rw [e7] at po2; exact po2.elim
    · have e : i = ds.length := by omega
      subst e
      refine .inl ⟨wd.stops w2 H2 hold, ?_⟩
      rw [List.drop_length, forGo] at po2
      exact po2 σ2 H2 w2 r2.drop
theorem ds_while {c : Expr} {body : List Stmt} (n : Nat) (hp : PassesOwn (model X.prog X.w) X.A X.env X.xe) (hc : PT X c (tDt X.K gt)) (hb : PSs X body (tDs X.K g)) : PS X (.While c body [] pos) (tDs X.K (sWhile n gt g)) :=
  PS.imp (ps_while hp hc hb) fun D σ H ⟨en, w, s, pend, r, po⟩ => by
    refine ⟨fun m σ H => ∃ (w : Lg) (s : S), RS X.K en w s σ H (trs pend) ∧ PostS X.K en pend D (whileGo gt g m s), ⟨n, w, s, r, po⟩, ?_⟩
    rintro m σ2 H2 ⟨w2, s2, r2, po2⟩
    cases m with
    | zero => exact po2.elim
    | succ m =>
      rw [whileGo] at po2
      obtain ⟨b, s3, e3, po2⟩ := PostS.bind po2
      refine tDt.first r2 e3 fun H3 w3 r3 => ?_
      cases b with
      | false => exact po2 σ2 H3 w3 r3
      | true =>
        simp only [if_true] at po2 ⊢
        refine ⟨fun σ' H' => ∃ (w : Lg) (s : S), RS X.K en w s σ' H' (trs pend) ∧ PostS X.K en pend D (whileGo gt g m s), fun σ' H' h' => ⟨m, Nat.lt_succ_self m, h'⟩, en, w3, s3, pend, r3, ?_⟩
        cases e7 : g s3 with
        | next s4 => rw [e7] at po2; exact fun σ5 H5 w5 r5 => ⟨w5, s4, r5, po2⟩
        | cont s4 => rw [e7] at po2; exact fun σ5 H5 w5 r5 => ⟨w5, s4, r5, po2⟩
        | brk s4 => rw [e7] at po2; exact po2
        | ret t s4 => rw [e7] at po2; exact po2
        | exc x s4 => rw [e7] at po2; exact po2.elim
        | stuck => rw [e7] at po2; exact po2.elim
end
end PL
set_option Elab.async false
set_option linter.all false
set_option maxRecDepth 100000
set_option autoImplicit false
namespace PL
open PySem PySem.Spec PyProof.Rows L2
section
variable {K : PySem.W.Frag} {en : En} {w : Lg} {s : S} {σ : L2.St} {H : Hp} {pend : List (V × RV)}
theorem trs_one (v : V) (t : T) : trs [(v, t)] = [(v, RV.tr t)] := rfl
/-- the list in a slot grows by trees -/
theorem RS.growSlot {ps : List (V × T)} {i : Nat} {ts : List T} (r : RS K en w s σ H (pend ++ trs ps)) (e : s.sl[i]? = some (.lst ts)) :
    ∃ a vs, (svs σ)[i]? = some (.ref a) ∧ H a = some (.lst vs) ∧ vs.length = ts.length ∧ RS K en w { s with sl := s.sl.set i (.lst (ts ++ ps.map (·.2))) } σ (upd H a (.lst (vs ++ ps.map (·.1)))) pend := by
  obtain ⟨v, F0, Fp, ev, hT, hP, dj, n0, nP, up⟩ := r.mutSlot e
  obtain ⟨a, vs, F', rfl, ha, hts, rfl⟩ := hT
  refine ⟨a, vs, ev, ha, hts.len, up _ (.lst (ts ++ ps.map (·.2))) (a :: (F' ++ Fp)) (fun b hb => upd_ne fun q => hb (by simp [q])) (fun m => ?_) ?_ (fun b hb => by
    simp only [List.mem_cons, List.mem_append] at hb ⊢
    rcases hb with q | q | q <;> simp [q]) (fun b hb => ?_) (by intro z; cases z) (by intro z; cases z)⟩
  · have off : ∀ b ∈ F' ++ Fp, upd H a (.lst (vs ++ ps.map (·.1))) b = H b := fun b hb => upd_ne fun q => by
      subst q
      rcases List.mem_append.mp hb with q | q
      · exact (List.nodup_cons.mp n0).1 q
      · exact dj b List.mem_cons_self q
    exact ⟨a, _, F' ++ Fp, rfl, upd_same, (hts.step m (Lg.le_refl w) fun b hb => off b (List.mem_append_left _ hb)).app (hP.step m (Lg.le_refl w) fun b hb => off b (List.mem_append_right _ hb)), rfl⟩
  · rw [← List.cons_append]
    exact List.nodup_append.mpr ⟨n0, nP, fun x hx y hy e => dj x hx (e ▸ hy)⟩
  · by_cases q : b = a
    · subst q; exact ⟨_, upd_same⟩
    · rw [upd_ne q]
      obtain ⟨o, eo, _⟩ := RepTs.there hts b ((List.mem_cons.mp hb).resolve_left q)
      exact ⟨o, eo⟩
/-- an item of the list in a slot is put -/
theorem RS.putSlot {i j : Nat} {v : V} {t : T} {ts : List T} (r : RS K en w s σ H (pend ++ [(v, .tr t)])) (e : s.sl[i]? = some (.lst ts)) (hj : j < ts.length) :
    ∃ a vs, (svs σ)[i]? = some (.ref a) ∧ H a = some (.lst vs) ∧ vs.length = ts.length ∧ RS K en w { s with sl := s.sl.set i (.lst (ts.set j t)) } σ (upd H a (.lst (vs.set j v))) pend := by
  have r : RS K en w s σ H (pend ++ trs [(v, t)]) := r
  obtain ⟨v0, F0, Fp, ev, hT, hP, dj, n0, nP, up⟩ := r.mutSlot e
  obtain ⟨a, vs, F', rfl, ha, hts, rfl⟩ := hT
  obtain ⟨P1, P2, hp1, hp2, rfl⟩ := hP
  have hp2 : P2 = [] := hp2
  subst hp2
  rw [List.append_nil] at dj nP
  obtain ⟨u, A1, A2, A3, eu, hu, rfl, put⟩ := RepTs.at hts (List.getElem?_eq_getElem hj)
  have nn := List.nodup_cons.mp n0
  have sub : List.Sublist (A1 ++ A3) (A1 ++ A2 ++ A3) := by
    rw [List.append_assoc]
    exact (List.Sublist.refl _).append (List.sublist_append_right _ _)
  refine ⟨a, vs, ev, ha, hts.len, up _ (.lst (ts.set j t)) (a :: (A1 ++ P1 ++ A3)) (fun b hb => upd_ne fun q => hb (by simp [q])) (fun m => ?_) ?_ (fun b hb => by
    simp only [List.mem_cons, List.mem_append] at hb ⊢
    rcases hb with q | (q | q) | q <;> simp [q]) (fun b hb => ?_) (by intro z; cases z) (by intro z; cases z)⟩
  · have off : ∀ b, b ≠ a → upd H a (.lst (vs.set j v)) b = H b := fun b hb => upd_ne hb
    refine ⟨a, _, _, rfl, upd_same, put w _ v t P1 (Lg.le_refl w) m (fun b hb => off b fun q => nn.1 (q ▸ sub.mem hb)) (hp1.step m (Lg.le_refl w) fun b hb => off b fun q => ?_), rfl⟩
    subst q
    exact dj b List.mem_cons_self hb
  · refine List.nodup_cons.mpr ⟨fun q => ?_, ?_⟩
    · simp only [List.mem_append] at q
      rcases q with (q | q) | q
      · exact nn.1 (by simp [q])
      · exact dj a List.mem_cons_self q
      · exact nn.1 (by simp [q])
    · have p2 : (A1 ++ P1 ++ A3).Perm ((A1 ++ A3) ++ P1) := by
        simp only [List.append_assoc]
        exact List.Perm.append_left A1 List.perm_append_comm
      exact p2.nodup_iff.mpr (List.nodup_append.mpr ⟨nn.2.sublist sub, nP, fun x hx y hy e => dj x (List.mem_cons_of_mem _ (sub.mem hx)) (e ▸ hy)⟩)
  · by_cases q : b = a
    · subst q; exact ⟨_, upd_same⟩
    · rw [upd_ne q]
      obtain ⟨o, eo, _⟩ := RepTs.there hts b ((List.mem_cons.mp hb).resolve_left q)
      exact ⟨o, eo⟩
/-- the slot's own value, pending by its place -/
theorem RS.own (r : RS K en w s σ H pend) {i : Nat} {ts : List T} (e : s.sl[i]? = some (.lst ts)) : ∃ a vs, σ[i]? = some (some (.ref a)) ∧ H a = some (.lst vs) ∧ RS K en w s σ H (pend ++ [(.ref a, .pl i)]) := by
  obtain ⟨v, ev⟩ := r.live i _ e (by intro z; cases z)
  obtain ⟨F1, F2, F3, h1, _⟩ := r.rep
  obtain ⟨v', A1, A2, A3, e4, hT, _⟩ := RepTs.at h1 e
  rw [svs_get ev] at e4
  cases e4
  obtain ⟨a, vs, F', rfl, ha, _, _⟩ := hT
  exact ⟨a, vs, ev, ha, r.push (p := (.ref a, .pl i)) ⟨svs_get ev, ⟨_, e, by intro z; cases z⟩, rfl⟩⟩
theorem RS.plV (r : RS K en w s σ H pend) {i : Nat} {v : V} (hp : (v, RV.pl i) ∈ pend) : (svs σ)[i]? = some v := by
  obtain ⟨F1, F2, F3, h1, h2, h3, nd, fr⟩ := r.rep
  have key : ∀ {ps : List (V × RV)} {F3 : List Addr}, RepVs K w H (svs σ) s.sl ps F3 → (v, RV.pl i) ∈ ps → ∃ F, RepV K w H (svs σ) s.sl (v, RV.pl i) F := fun {ps} => by
    induction ps with
    | nil => intro _ _ h; cases h
    | cons q qs ih =>
      intro F ⟨G1, G2, g1, g2, g⟩ hm
      rcases List.mem_cons.mp hm with e | e
      · rw [e]; exact ⟨G1, g1⟩
      · exact ih g2 e
  obtain ⟨F, e, _⟩ := key h3 hp
  exact e
end
/-! list methods, as statements -/
def isLst (s : S) (i : Nat) : Bool := match s.sl[i]? with
  | some (.lst _) => true
  | _ => false
theorem isLst_ok {s : S} {i : Nat} (h : isLst s i = true) : ∃ ts, s.sl[i]? = some (.lst ts) := by
  unfold isLst at h
  split at h
  · rename_i ts e; exact ⟨ts, e⟩
  · cases h
def appv (i : Nat) (rv : RV) (s : S) : O := match rv with
  | .tr t => match s.sl[i]? with
    | some (.lst ts) => if ts.length < sizeLine then .next { s with sl := s.sl.set i (.lst (ts ++ [t])) } else .stuck
    | _ => .stuck
  | _ => .stuck
def sAppend (i : Nat) (g : G) : GS := fun s => if isLst s i then (gNp g s).bindO (appv i) else .stuck
def sExtend (i : Nat) (g : G) : GS := fun s => if isLst s i then (g s).bindO fun rv s1 => match lsd s1 rv, s1.sl[i]? with
    | some ds, some (.lst ts) => if ts.length + ds.length ≤ sizeLine then .next { s1 with sl := s1.sl.set i (.lst (ts ++ ds.map .fz)) } else .stuck
    | _, _ => .stuck
  else .stuck
/-- xs[k] = v -/
def putv (i : Nat) (rv rk : RV) (s : S) : O := match rv with
  | .tr t => match dat s rk with
    | some (.int k) => match s.sl[i]? with
      | some (.lst ts) => match ixN ts.length k with
        | some j => .next { s with sl := s.sl.set i (.lst (ts.set j t)) }
        | none => .stuck
      | _ => .stuck
    | _ => .stuck
  | _ => .stuck
def sPutIx (i : Nat) (gk g : G) : GS := fun s => (gNp g s).bindO fun rv s1 => if isLst s1 i then (gk s1).bindO (putv i rv) else .stuck
section
variable {X : Cx} {e : Expr} {ga gk : G} {pos : Pos}
theorem ds_append (i : Nat) {x : Str} {p apos cpos : Pos} (hN : X.N[i]? = some x) (hv : Vis X.env.scope x) (he : PE X e (tD X.K ga)) (hs : swapsWith (.Call (.Attribute (.Name x p) "append" apos) [e] [] cpos) none pos.line X.env = pure false)
    (hd : (x == ("__debug__" : Str)) = false) (hcd : (x == ("__classdict__" : Str)) = false)
    (hb : attributeBase (.Name x p) "append" X.env (eval (.Name x p) X.env) = eval (.Name x p) X.env)
    (hPE : PE X (.Name x p) (tVar i) → PA X [e] (tDa X.K (aCons (gNp ga) aNil)) → PE X (.Call (.Attribute (.Name x p) "append" apos) [e] [] cpos) (tBM X.K "list" rAppend (tVar i) (tDa X.K (aCons (gNp ga) aNil))))
    (hst : starEach [e] X.env = (false, eval e X.env) :: starEach [] X.env) :
    PS X (.Expr (.Call (.Attribute (.Name x p) "append" apos) [e] [] cpos) pos) (tDs X.K (sAppend i ga)) :=
  PS.imp (ps_expr (hPE (pe_var hN hv hd hcd) (da_cons (de_np he) da_nil hst)) hs) fun D σ H ⟨en, w, s, pend, r, po⟩ => by
    unfold sAppend at po
    split at po
    case isFalse => exact po.elim
    rename_i hl
    obtain ⟨ts0, e0⟩ := isLst_ok hl
    obtain ⟨a, vs0, ea, h0, r0⟩ := r.own e0
    obtain ⟨rv, s1, e1, po⟩ := PostS.bind po
    refine ⟨.ref a, ea, .inl ⟨rfl, vs0, SqL.of h0⟩, ?_⟩
    have e1' : aCons (gNp ga) aNil s = .ok [rv] s1 := by
      unfold aCons
      rw [e1]
      rfl
    refine tDa.first r0 e1' fun vs H1 w1 hlen r1 => ?_
    obtain ⟨y, rfl⟩ := one_of hlen
    have r1 : RS X.K en w1 s1 σ H1 (trs pend ++ [(.ref a, .pl i)] ++ [(y, rv)]) := r1
    cases rv with
    | pl _ => exact po.elim
    | tr t =>
      unfold appv at po
      dsimp only at po
      split at po
      · rename_i ts e2
        split at po
        · rename_i hz
          obtain ⟨b, vs, eb, hb, hvl, r2⟩ := RS.growSlot (ps := [(y, t)]) r1 e2
          have := svs_get ea
          rw [this] at eb
          cases eb
          exact ⟨a, vs, y, rfl, rfl, hb, by rw [hvl]; exact hz, po σ _ w1 r2.drop⟩
        · exact po.elim
      · exact po.elim
theorem ds_extend (i : Nat) {x : Str} {p apos cpos : Pos} (hN : X.N[i]? = some x) (hv : Vis X.env.scope x) (he : PE X e (tD X.K ga)) (hs : swapsWith (.Call (.Attribute (.Name x p) "extend" apos) [e] [] cpos) none pos.line X.env = pure false)
    (hd : (x == ("__debug__" : Str)) = false) (hcd : (x == ("__classdict__" : Str)) = false)
    (hPE : PE X (.Name x p) (tVar i) → PA X [e] (tDa X.K (aCons ga aNil)) → PE X (.Call (.Attribute (.Name x p) "extend" apos) [e] [] cpos) (tBM X.K "list" rExtend (tVar i) (tDa X.K (aCons ga aNil))))
    (hst : starEach [e] X.env = (false, eval e X.env) :: starEach [] X.env) :
    PS X (.Expr (.Call (.Attribute (.Name x p) "extend" apos) [e] [] cpos) pos) (tDs X.K (sExtend i ga)) :=
  PS.imp (ps_expr (hPE (pe_var hN hv hd hcd) (da_cons he da_nil hst)) hs) fun D σ H ⟨en, w, s, pend, r, po⟩ => by
    unfold sExtend at po
    split at po
    case isFalse => exact po.elim
    rename_i hl
    obtain ⟨ts0, e0⟩ := isLst_ok hl
    obtain ⟨a, vs0, ea, h0, r0⟩ := r.own e0
    obtain ⟨rv, s1, e1, po⟩ := PostS.bind po
    refine ⟨.ref a, ea, .inl ⟨rfl, vs0, SqL.of h0⟩, ?_⟩
    have e1' : aCons ga aNil s = .ok [rv] s1 := by
      unfold aCons
      rw [e1]
      rfl
    refine tDa.first r0 e1' fun vs H1 w1 hlen r1 => ?_
    obtain ⟨y, rfl⟩ := one_of hlen
    have r1 : RS X.K en w1 s1 σ H1 (trs pend ++ [(.ref a, .pl i)] ++ [(y, rv)]) := r1
    split at po
    · rename_i ds ts e3 e2
      split at po
      · rename_i hz
        obtain ⟨b, us, rfl, hb, hr⟩ := r1.lsd_ (v := y) (rv := rv) (by simp) e3
        have r1' : RS X.K en w1 s1 σ H1 (trs pend ++ [(.ref a, .pl i)] ++ trs (us.zip (ds.map T.fz))) := by
          have : ∀ {us : List V} {ds : List PL.D} {q : List (V × RV)}, RS X.K en w1 s1 σ H1 q → Reps X.K w1 H1 true us ds → RS X.K en w1 s1 σ H1 (q ++ trs (us.zip (ds.map T.fz))) := by
            intro us
            induction us with
            | nil => intro ds q r h; cases ds with
              | nil => simpa [trs] using r
              | cons _ _ => exact h.elim
            | cons u us ih =>
              intro ds q r h
              cases ds with
              | nil => exact h.elim
              | cons d ds =>
                have := ih (r.pushD h.1) h.2
                simpa [trs] using this
          exact this r1.drop hr
        obtain ⟨c, vs, eb, hc, hvl, r2⟩ := RS.growSlot r1' e2
        have := svs_get ea
        rw [this] at eb
        cases eb
        have hl2 : us.length = (ds.map T.fz).length := by rw [List.length_map]; exact hr.len
        rw [zip_fst hl2, zip_snd hl2] at r2
        exact ⟨a, b, vs, us, rfl, rfl, hc, hb, by rw [hvl, hr.len]; exact hz, po σ _ w1 r2.drop⟩
      · exact po.elim
    · exact po.elim
theorem ds_putIx {i : Nat} {x : Str} {b : Expr} {px pos' : Pos} (hN : X.N[i]? = some x) (hv : Vis X.env.scope x) (hd : (x == ("__debug__" : Str)) = false) (hcd : (x == ("__classdict__" : Str)) = false) (hk : PE X b (tD X.K gk)) (he : PE X e (tD X.K ga))
    (ha : ∀ v, assign (.Subscript (.Name x px) b pos') X.env v = (do
      let ov ← holding [v] (eval (.Name x px) X.env)
      let iv ← holding [v, ov] (eval b X.env)
      standAt pos'
      holding [v, ov, iv] (setItem ov iv v)
      release [v, ov, iv] []))
    (hs : swapsWithSole [.Subscript (.Name x px) b pos'] e pos.line X.env = pure false) (hw : swappedStores [.Subscript (.Name x px) b pos'] e X.env = pure none) (h1 : (assignEach [.Subscript (.Name x px) b pos'] X.env).map (·.2) = [assign (.Subscript (.Name x px) b pos') X.env]) :
    PS X (.Assign [.Subscript (.Name x px) b pos'] e pos) (tDs X.K (sPutIx i gk ga)) :=
  PS.imp (ps_asg (de_np he) (pg_sub (pe_var hN hv hd hcd) hk set_list ha) hs hw h1) fun D σ H ⟨en, w, s, pend, r, po⟩ => by
    obtain ⟨rv, s1, e1, po⟩ := PostS.bind po
    refine tD.first r e1 fun v H1 w1 r1 => ?_
    split at po
    case isFalse => exact po.elim
    rename_i hl
    obtain ⟨ts0, e0⟩ := isLst_ok hl
    obtain ⟨rk, s3, e3, po⟩ := PostS.bind po
    obtain ⟨a0, vs0, ea0, h0, r2⟩ := r1.own e0
    refine ⟨.ref a0, ea0, tD.first r2 e3 fun kv H3 w3 r3 => ?_⟩
    unfold putv at po
    cases rv with
    | pl _ => exact po.elim
    | tr t =>
    dsimp only at po
    split at po
    case h_2 => exact po.elim
    rename_i k e4
    split at po
    case h_2 => exact po.elim
    rename_i ts e5
    split at po
    case h_2 => exact po.elim
    rename_i j e6
    have ek : kv = .int k := r3.dat_ (v := kv) (rv := rk) (by simp) e4
    have r4 : RS X.K en w3 s3 σ H3 (trs pend ++ [(v, .tr t)] ++ [(.ref a0, .pl i), (kv, rk)]) := by simpa using r3
    obtain ⟨a, vs, ea, ha, hvl, r5⟩ := RS.putSlot r4.drop e5 ((ixN_seq e6).2.1)
    rw [svs_get ea0] at ea
    cases ea
    exact ⟨a0, vs, k, j, rfl, ek, ha, by rw [hvl]; exact e6, po σ _ w3 r5⟩
end
end PL
set_option Elab.async false
set_option linter.all false
set_option maxRecDepth 100000
set_option autoImplicit false
namespace PL
open PySem PySem.Spec PyProof.Rows L2
/-! ### dicts whose keys are ints and texts -/
def keyD : D → Option Key
  | .int i => some (.inl i)
  | .str x => some (.inr x)
  | _ => none
def keyIx (ks : List Key) (k : Key) : Option Nat := ks.findIdx? fun x => decide (x = k)
def dPut {α : Type} (ks : List Key) (ts : List α) (k : Key) (t : α) : List Key × List α := match keyIx ks k with
  | some j => (ks, ts.set j t)
  | none => (ks ++ [k], ts ++ [t])
theorem keyIx_nil (k : Key) : keyIx [] k = none := rfl
theorem keyIx_cons (x : Key) (ks : List Key) (k : Key) : keyIx (x :: ks) k = if x = k then some 0 else (keyIx ks k).map (· + 1) := by
  unfold keyIx
  rw [List.findIdx?_cons]
  by_cases h : x = k
  · simp [h]
  · simp [h]
theorem keyIx_lt : ∀ {ks : List Key} {k : Key} {j : Nat}, keyIx ks k = some j → j < ks.length
  | [], _, _, h => by cases h
  | x :: ks, k, j, h => by
    rw [keyIx_cons] at h
    by_cases e : x = k
    · rw [if_pos e] at h; cases h; exact Nat.succ_pos _
    · rw [if_neg e] at h
      cases q : keyIx ks k with
      | none => rw [q] at h; cases h
      | some i => rw [q] at h; cases h; exact Nat.succ_lt_succ (keyIx_lt q)
theorem keyIx_mem : ∀ {ks : List Key} {k : Key}, keyIx ks k = none → k ∉ ks
  | [], _, _, h => by cases h
  | x :: ks, k, h, hm => by
    rw [keyIx_cons] at h
    by_cases e : x = k
    · rw [if_pos e] at h; cases h
    · rw [if_neg e] at h
      rcases List.mem_cons.mp hm with q | q
      · exact e q.symm
      · exact keyIx_mem (by cases q2 : keyIx ks k with
          | none => rfl
          | some i => rw [q2] at h; cases h) q
theorem valV_zip : ∀ {ks : List Key} {vs : List V} {k : Key} {j : Nat} {v : V}, ks.length = vs.length → keyIx ks k = some j → vs[j]? = some v → valV (ks.zip vs) k = some v
  | [], _, _, _, _, _, h, _ => by cases h
  | _ :: _, [], _, _, _, e, _, _ => by cases e
  | x :: ks, u :: vs, k, j, v, e, h, hv => by
    rw [keyIx_cons] at h
    rw [List.zip_cons_cons]
    by_cases q : x = k
    · rw [if_pos q] at h
      cases h
      cases hv
      exact valV_pos (p := (x, u)) q
    · rw [if_neg q] at h
      cases q2 : keyIx ks k with
      | none => rw [q2] at h; cases h
      | some i =>
        rw [q2] at h
        cases h
        rw [valV_neg (p := (x, u)) q]
        exact valV_zip (Nat.succ.inj e) q2 hv
theorem valV_zipN : ∀ {ks : List Key} {vs : List V} {k : Key}, ks.length = vs.length → keyIx ks k = none → valV (ks.zip vs) k = none
  | [], _, _, _, _ => rfl
  | _ :: _, [], _, e, _ => by cases e
  | x :: ks, u :: vs, k, e, h => by
    rw [keyIx_cons] at h
    rw [List.zip_cons_cons]
    by_cases q : x = k
    · rw [if_pos q] at h; cases h
    · rw [if_neg q] at h
      rw [valV_neg (p := (x, u)) q]
      exact valV_zipN (Nat.succ.inj e) (by cases q2 : keyIx ks k with
        | none => rfl
        | some i => rw [q2] at h; cases h)
theorem map_putz : ∀ {ks : List Key} {vs : List V} {k : Key} {v : V}, k ∉ ks → (ks.zip vs).map (fun kv => if kv.1 = k then (kv.1, v) else kv) = ks.zip vs
  | [], _, _, _, _ => rfl
  | _ :: _, [], _, _, _ => rfl
  | x :: ks, u :: vs, k, v, h => by
    rw [List.zip_cons_cons, List.map_cons, map_putz fun q => h (List.mem_cons_of_mem _ q)]
    rw [if_neg (show ¬ x = k from fun q => h (by rw [q]; exact List.mem_cons_self))]
theorem map_put : ∀ {ks : List Key} {vs : List V} {k : Key} {j : Nat} {v : V}, ks.length = vs.length → ks.Nodup → keyIx ks k = some j → (ks.zip vs).map (fun kv => if kv.1 = k then (kv.1, v) else kv) = ks.zip (vs.set j v)
  | [], _, _, _, _, _, _, h => by cases h
  | _ :: _, [], _, _, _, e, _, _ => by cases e
  | x :: ks, u :: vs, k, j, v, e, nd, h => by
    rw [keyIx_cons] at h
    have nd := List.nodup_cons.mp nd
    by_cases q : x = k
    · rw [if_pos q] at h
      cases h
      subst q
      rw [List.set_cons_zero, List.zip_cons_cons, List.zip_cons_cons, List.map_cons, map_putz nd.1, if_pos rfl]
    · rw [if_neg q] at h
      cases q2 : keyIx ks k with
      | none => rw [q2] at h; cases h
      | some i =>
        rw [q2] at h
        cases h
        rw [show (u :: vs).set (i + 1) v = u :: vs.set i v from rfl, List.zip_cons_cons, List.zip_cons_cons, List.map_cons, map_put (Nat.succ.inj e) nd.2 q2, if_neg q]
theorem putK_zip {ks : List Key} {vs : List V} {k : Key} {v : V} (e : ks.length = vs.length) (nd : ks.Nodup) : putK (ks.zip vs) k v = (dPut ks vs k v).1.zip (dPut ks vs k v).2 := by
  unfold putK dPut
  rw [valV_any]
  cases q : keyIx ks k with
  | none =>
    rw [valV_zipN e q]
    simp only [Option.isSome_none, Bool.false_eq_true, if_false]
    rw [List.zip_append e]
    rfl
  | some j =>
    have hj : j < vs.length := by rw [← e]; exact keyIx_lt q
    rw [valV_zip e q (List.getElem?_eq_getElem hj)]
    simp only [Option.isSome_some, if_true]
    exact map_put e nd q
theorem dPut_len {α : Type} {ks : List Key} {ts : List α} {k : Key} {t : α} (e : ks.length = ts.length) : (dPut ks ts k t).1.length = (dPut ks ts k t).2.length := by
  unfold dPut
  cases keyIx ks k with
  | none => simp [e]
  | some j => simp [e]
theorem dPut_keys {α β : Type} (ks : List Key) (ts : List α) (us : List β) (k : Key) (t : α) (u : β) : (dPut ks ts k t).1 = (dPut ks us k u).1 := by
  unfold dPut
  cases keyIx ks k <;> rfl
theorem dPut_nodup {α : Type} {ks : List Key} {ts : List α} {k : Key} {t : α} (nd : ks.Nodup) : (dPut ks ts k t).1.Nodup := by
  unfold dPut
  cases q : keyIx ks k with
  | some j => exact nd
  | none =>
    refine List.nodup_append.mpr ⟨nd, by simp, fun a ha b hb e => ?_⟩
    have : b = k := by simpa using hb
    subst this
    exact keyIx_mem q (e ▸ ha)
section
variable {K : PySem.W.Frag} {en : En} {w : Lg} {s : S} {σ : L2.St} {H : Hp} {pend : List (V × RV)}
theorem keyV {v : V} {d : D} {k : Key} {b : Bool} (h : Rep K w H b v d) (e : keyD d = some k) : v = kV k := by
  cases d with
  | int i => cases e; exact h
  | str x => cases e; exact h.1
  | _ => cases e
theorem RepTs.put {ks : List Key} {k : Key} {vs : List V} {ts : List T} {z : V} {t : T} {F0 Ft : List Addr} (e : ks.length = vs.length) (h : RepTs K w H vs ts F0) (ht : RepT K w H z t Ft) (nd : (F0 ++ Ft).Nodup) :
    ∃ F', RepTs K w H (dPut ks vs k z).2 (dPut ks ts k t).2 F' ∧ F'.Nodup ∧ ∀ a ∈ F', a ∈ F0 ++ Ft := by
  unfold dPut
  cases q : keyIx ks k with
  | none => exact ⟨F0 ++ Ft, h.app ⟨Ft, [], ht, rfl, by simp⟩, nd, fun _ q => q⟩
  | some j =>
    have hj : j < ts.length := by rw [← h.len, ← e]; exact keyIx_lt q
    obtain ⟨v0, A1, A2, A3, ev, hT, rfl, up⟩ := RepTs.at h (List.getElem?_eq_getElem hj)
    refine ⟨A1 ++ Ft ++ A3, up w H z t Ft (Lg.le_refl w) (Mono.refl w H) (fun _ _ => rfl) ht, ?_, fun a ha => ?_⟩
    · have p2 : (A1 ++ A2 ++ A3 ++ Ft).Perm (A2 ++ (A1 ++ Ft ++ A3)) := by
        simp only [List.append_assoc]
        refine (List.perm_append_comm_assoc A1 A2 _).trans (List.Perm.append_left A2 (List.Perm.append_left A1 List.perm_append_comm))
      exact (List.nodup_append.mp (p2.nodup_iff.mp nd)).2.1
    · simp only [List.mem_append] at ha ⊢
      rcases ha with (q | q) | q <;> simp [q]
/-- a thing of the store changes: what stood there, over the last pending trees -/
theorem RS.mutOb {ps : List (V × T)} {i : Nat} {t0 : T} (r : RS K en w s σ H (pend ++ trs ps)) (e : s.ob[i]? = some t0) :
    ∃ a F0 Fp, w.rho[i]? = some a ∧ RepT K w H (.ref a) t0 F0 ∧ RepTs K w H (ps.map (·.1)) (ps.map (·.2)) Fp ∧ (F0 ++ Fp).Nodup ∧
      ∀ (H' : Hp) (t' : T) (F' : List Addr), (∀ a, a ∉ F0 → H' a = H a) → (Mono w H H' → RepT K w H' (.ref a) t' F') → F'.Nodup → (∀ a ∈ F', a ∈ F0 ++ Fp) →
        RS K en w { s with ob := s.ob.set i t' } σ H' pend := by
  obtain ⟨F1, F2, F3, h1, h2, h3, nd, fr⟩ := r.rep
  obtain ⟨G1, Fp, g1, g2, rfl⟩ := h3.split
  obtain ⟨v, A1, F0, A3, ev, hT, rfl, up⟩ := RepTs.at h2 e
  have g2' := RepVs.trs g2
  rw [List.getElem?_map] at ev
  cases ea : w.rho[i]? with
  | none => rw [ea] at ev; cases ev
  | some a =>
  rw [ea] at ev
  cases ev
  have perm : (F1 ++ (A1 ++ F0 ++ A3) ++ (G1 ++ Fp)).Perm (F0 ++ Fp ++ (F1 ++ A1 ++ A3 ++ G1)) := by
    simp only [List.append_assoc]
    rw [← List.append_assoc F1 A1]
    refine (List.perm_append_comm_assoc (F1 ++ A1) F0 _).trans (List.Perm.append_left F0 ?_)
    simp only [List.append_assoc]
    refine List.Perm.trans ?_ (List.perm_append_comm_assoc Fp _ _).symm
    refine List.Perm.append_left F1 ?_
    refine List.Perm.trans ?_ (List.perm_append_comm_assoc Fp _ _).symm
    refine List.Perm.append_left A1 ?_
    refine List.Perm.trans ?_ (List.perm_append_comm_assoc Fp _ _).symm
    exact List.Perm.append_left A3 List.perm_append_comm
  have nd' := perm.nodup_iff.mp nd
  have nd0 := (List.nodup_append.mp nd').1
  refine ⟨a, F0, Fp, rfl, hT, g2', nd0, fun H' t' F' hk hr nF hF => ?_⟩
  have mem0 : ∀ a ∈ F0, a ∈ F1 ++ (A1 ++ F0 ++ A3) ++ (G1 ++ Fp) := fun a ha => by simp [ha]
  have m : Mono w H H' := Mono.off (fun a ha => ⟨hT.there a ha, (fr a (mem0 a ha)).2⟩) hk
  have off : ∀ {L : List Addr}, (∀ a ∈ L, a ∈ F1 ++ A1 ++ A3 ++ G1) → ∀ a ∈ L, H' a = H a := fun hL a ha => hk a fun h0 => (List.nodup_append.mp nd').2.2 a (List.mem_append_left _ h0) a (hL a ha) rfl
  have hsv : (w.rho.map V.ref).set i (.ref a) = w.rho.map V.ref := by
    obtain ⟨hi, q⟩ := List.getElem?_eq_some_iff.mp ea
    rw [← List.map_set, ← q, List.set_getElem_self]
  have q1 := up w H' (.ref a) t' F' (Lg.le_refl w) m (off fun a ha => by simp only [List.mem_append] at ha ⊢; rcases ha with q | q <;> simp [q]) (hr m)
  rw [hsv] at q1
  refine ⟨⟨F1, A1 ++ F' ++ A3, G1, h1.step m (Lg.le_refl w) (off fun a ha => by simp [ha]), q1, RepVs.step m (Lg.le_refl w) (fun p _ => plOk.self p) (off fun a ha => by simp [ha]) g1, ?_, fun a ha => ?_⟩, r.live, fun a o ea => ?_, r.mono.trans m r.le, r.le, fun a z => ?_⟩
  · have p2 : (F1 ++ (A1 ++ F' ++ A3) ++ G1).Perm (F' ++ (F1 ++ A1 ++ A3 ++ G1)) := by
      simp only [List.append_assoc]
      rw [← List.append_assoc F1 A1, ← List.append_assoc F1 A1]
      exact List.perm_append_comm_assoc (F1 ++ A1) F' _
    refine p2.nodup_iff.mpr (List.nodup_append.mpr ⟨nF, (List.nodup_append.mp nd').2.1, fun a ha b hb => ?_⟩)
    exact (List.nodup_append.mp nd').2.2 a (hF a ha) b hb
  · by_cases q : a ∈ F'
    · have := hF a q
      refine fr a ?_
      simp only [List.mem_append] at this ⊢
      rcases this with q | q <;> simp [q]
    · refine fr a ?_
      simp only [List.mem_append] at ha ⊢
      rcases ha with (x | (x | x) | x) | x
      · simp [x]
      · simp [x]
      · exact absurd x q
      · simp [x]
      · simp [x]
  · by_cases q : a ∈ F0
    · rcases (fr a (mem0 a q)).1 with z | z
      · rw [z] at ea; cases ea
      · exact .inl z
    · rcases r.frame a o ea with z | z
      · exact .inl z
      · exact .inr ((hk a q).trans z)
  · obtain ⟨⟨xs, ez⟩, hz⟩ := r.zz a z
    exact ⟨⟨xs, (m.fro a z).trans ez⟩, hz⟩
/-- the dict that a value is -/
def dctAt (s : S) (rv : RV) : Option (List Key × List T) := match look s rv with
  | .dct ks ts => some (ks, ts)
  | .fz (.obj n) => match s.ob[n]? with
    | some (.dct ks ts) => some (ks, ts)
    | _ => none
  | _ => none
theorem RS.dct (r : RS K en w s σ H pend) {v : V} {rv : RV} {ks : List Key} {ts : List T} (hp : (v, rv) ∈ pend) (e : dctAt s rv = some (ks, ts)) :
    ∃ a vs F, v = .ref a ∧ ks.length = vs.length ∧ ks.Nodup ∧ H a = some (.dK (ks.zip vs)) ∧ RepTs K w H vs ts F := by
  obtain ⟨F, hF⟩ := r.tree hp
  have hF : RepT K w H v (look s rv) F := hF
  unfold dctAt at e
  split at e
  · rename_i ks' ts' q
    cases e
    rw [q] at hF
    obtain ⟨a, vs, F', e1, e2, e3, e4, _⟩ := hF
    exact ⟨a, vs, F', e1, e2.1, e2.2, e3, e4⟩
  · rename_i n q
    rw [q] at hF
    obtain ⟨⟨a, e1, e2⟩, _⟩ := hF
    split at e
    · rename_i ks' ts' q2
      cases e
      obtain ⟨F1, F2, F3, h1, h2, h3, nd, fr⟩ := r.rep
      obtain ⟨v', A1, A2, A3, ev, hT, _⟩ := RepTs.at h2 q2
      rw [List.getElem?_map, e2] at ev
      cases ev
      obtain ⟨b, vs, F', e5, e6, e7, e8, _⟩ := hT
      cases e5
      exact ⟨a, vs, F', e1, e6.1, e6.2, e7, e8⟩
    · cases e
  · cases e
def pDGet (s : S) (x y : RV) : R RV := match dctAt s x with
  | some (ks, ts) => match (dat s y).bind keyD with
    | some k => match keyIx ks k with
      | some j => match ts[j]? with
        | some (.fz d) => .ok (.tr (.fz d)) s
        | _ => .stuck
      | none => .stuck
    | none => .stuck
  | none => .stuck
def pIx4 (s : S) (x y : RV) : R RV := match dctAt s x with
  | some _ => pDGet s x y
  | none => pIx s x y
def rDGet : R2 := fun x y H Q => ∃ a v, x = .ref a ∧ DGet H a y (some v) ∧ Q v H
theorem ix_d {X : Cx} (hu : X.A.units + 1 < cLine) : IxR X rDGet := by
  intro value slice pins s σ H x y v u Q I rx ry h hs
  obtain ⟨a, z, rfl, g, q⟩ := h
  obtain rfl : v = Value.ref a := rx
  exact tail_any (dict_typeIs I g) PySem.F.slot_dict_getitem.lookup (d_getItem hu I g ry fun w' s3 I3 rw' => ⟨z, H, I3, rw', q⟩) hs
def rIx4 (K : PySem.W.Frag) : R2 := fun x y H Q => rIx K x y H Q ∨ rDGet x y H Q
theorem ix_4 {X : Cx} (hu : X.A.units + 1 < cLine) : IxR X (rIx4 X.K) := ix_seq.or (ix_d hu)
theorem RS.dval (r : RS K en w s σ H pend) {x y : V} {rx ry : RV} {ks : List Key} {ts : List T} {k : Key} {j : Nat} {d : D} (hx : (x, rx) ∈ pend) (hy : (y, ry) ∈ pend) (e1 : dctAt s rx = some (ks, ts)) (e2 : (PL.dat s ry).bind keyD = some k) (e3 : keyIx ks k = some j) (e4 : ts[j]? = some (.fz d)) :
    ∃ a v, x = .ref a ∧ DGet H a y (some v) ∧ Rep K w H true v d ∧ y = kV k := by
  obtain ⟨a, vs, F, rfl, hl, nd, ha, hr⟩ := r.dct hx e1
  obtain ⟨v, A1, A2, A3, ev, hT, _⟩ := RepTs.at hr e4
  cases e5 : PL.dat s ry with
  | none => rw [e5] at e2; cases e2
  | some dk =>
    rw [e5] at e2
    have ey := keyV (r.dat_ hy e5) e2
    subst ey
    exact ⟨a, v, rfl, by rw [← valV_zip hl e3 ev]; exact DGet.k ha, hT.1, rfl⟩
theorem opS_ix4 : OpS K (rIx4 K) pIx4 := by
  intro en w s σ H pend x y rx ry Q r po
  unfold pIx4 at po
  split at po
  · rename_i q q0
    obtain ⟨ks, ts⟩ := q
    unfold pDGet at po
    rw [q0] at po
    dsimp only at po
    split at po
    case h_2 => exact po.elim
    rename_i k e2
    split at po
    case h_2 => exact po.elim
    rename_i j e3
    split at po
    case h_2 => exact po.elim
    rename_i d e4
    obtain ⟨a, v, ex, g, hv, _⟩ := r.dval (x := x) (y := y) (rx := rx) (ry := ry) (by simp) (by simp) q0 e2 e3 e4
    exact .inr ⟨a, v, ex, g, po v H w (r.drop2.pushD hv)⟩
  · exact .inl (opS_ix en w s σ H pend x y rx ry Q r po)
/-- d[k] is put -/
def dctSet (s : S) (rv : RV) (t : T) : Option S := match rv with
  | .pl i => match s.sl[i]? with
    | some (.dct _ _) => some { s with sl := s.sl.set i t }
    | _ => none
  | .tr (.fz (.obj n)) => some { s with ob := s.ob.set n t }
  | _ => none
theorem RS.dput {v z : V} {t : T} {rv : RV} {ks : List Key} {ts : List T} {k : Key} {s' : S} (r : RS K en w s σ H (pend ++ [(z, .tr t)])) (hp : (v, rv) ∈ pend) (e : dctAt s rv = some (ks, ts)) (es : dctSet s rv (.dct (dPut ks ts k t).1 (dPut ks ts k t).2) = some s') :
    ∃ a vs, v = .ref a ∧ ks.length = vs.length ∧ ks.length = ts.length ∧ H a = some (.dK (ks.zip vs)) ∧ RS K en w s' σ (upd H a (.dK (putK (ks.zip vs) k z))) pend := by
  have r : RS K en w s σ H (pend ++ trs [(z, t)]) := r
  have mk : ∀ {a : Addr} {vs : List V} {F' Fp : List Addr} {H' : Hp}, ks.length = vs.length ∧ ks.Nodup → RepTs K w H vs ts F' → RepTs K w H [z] [t] Fp → ((a :: F') ++ Fp).Nodup → H' = upd H a (.dK (putK (ks.zip vs) k z)) →
      ∃ G, (Mono w H H' → RepT K w H' (.ref a) (.dct (dPut ks ts k t).1 (dPut ks ts k t).2) G) ∧ G.Nodup ∧ ∀ b ∈ G, b ∈ (a :: F') ++ Fp := fun {a vs F' Fp H'} hl hts hP nd eH => by
    obtain ⟨P1, P2, p1, p2, rfl⟩ := hP
    have p2 : P2 = [] := p2
    subst p2
    rw [List.append_nil, List.cons_append] at nd
    have nn := List.nodup_cons.mp nd
    obtain ⟨G, g1, g2, g3⟩ := RepTs.put (k := k) hl.1 hts p1 nn.2
    have na : a ∉ G := fun h => nn.1 (g3 a h)
    refine ⟨a :: G, fun m => ⟨a, _, G, rfl, ⟨?_, dPut_nodup hl.2⟩, ?_, g1.step m (Lg.le_refl w) (fun b hb => by rw [eH]; exact upd_ne (a := a) (b := b) (fun q => na (by rw [← q]; exact hb))), rfl⟩, List.nodup_cons.mpr ⟨na, g2⟩, fun b hb => ?_⟩
    · rw [dPut_keys ks ts vs k t z]
      exact dPut_len hl.1
    · rw [eH, upd_same, putK_zip hl.1 hl.2, dPut_keys ks ts vs k t z]
    · rw [List.append_nil]
      rcases List.mem_cons.mp hb with q | q
      · rw [q]; exact List.mem_append_left _ List.mem_cons_self
      · exact List.mem_cons_of_mem _ (g3 b q)
  cases rv with
  | pl i =>
    have ev := r.plV (v := v) (i := i) (by simp [hp])
    unfold dctSet at es
    dsimp only at es
    split at es
    case h_2 => cases es
    case h_1 ks0 ts0 e1 =>
      cases es
      have e0 : ks0 = ks ∧ ts0 = ts := by
        unfold dctAt at e
        simp only [look_pl, List.getD_eq_getElem?_getD, e1, Option.getD_some] at e
        cases e
        exact ⟨rfl, rfl⟩
      obtain ⟨rfl, rfl⟩ := e0
      obtain ⟨v', F0, Fp, ev', hT, hP, dj, n0, nP, up⟩ := r.mutSlot e1
      rw [ev] at ev'
      cases ev'
      obtain ⟨a, vs, F', rfl, hl, ha, hts, rfl⟩ := hT
      obtain ⟨G, g1, g2, g3⟩ := mk hl hts hP (List.nodup_append.mpr ⟨n0, nP, fun x hx y hy e => dj x hx (e ▸ hy)⟩) rfl
      refine ⟨a, vs, rfl, hl.1, hl.1.trans hts.len, ha, up _ _ G (fun b hb => upd_ne fun q => hb (by simp [q])) g1 g2 g3 (fun b hb => ?_) (by intro z; cases z) (by intro z; cases z)⟩
      by_cases q : b = a
      · subst q; exact ⟨_, upd_same⟩
      · rw [upd_ne q]
        obtain ⟨o, eo, _⟩ := RepTs.there hts b ((List.mem_cons.mp hb).resolve_left q)
        exact ⟨o, eo⟩
  | tr t1 =>
    cases t1 with
    | fz d =>
      cases d with
      | obj n =>
        cases es
        have hd := r.dat (v := v) (d := .obj n) (by simp [hp])
        obtain ⟨a, rfl, ea⟩ := hd
        cases e1 : s.ob[n]? with
        | none => unfold dctAt at e; simp only [look_tr, e1] at e; cases e
        | some t0 =>
          have e0 : t0 = .dct ks ts := by
            unfold dctAt at e
            simp only [look_tr, e1] at e
            split at e
            · rename_i q; cases q; cases e; rfl
            · cases e
          subst e0
          obtain ⟨a', F0, Fp, ea', hT, hP, nd, up⟩ := r.mutOb e1
          rw [ea] at ea'
          cases ea'
          obtain ⟨b, vs, F', eb, hl, ha, hts, rfl⟩ := hT
          cases eb
          obtain ⟨G, g1, g2, g3⟩ := mk hl hts hP nd rfl
          exact ⟨a, vs, rfl, hl.1, hl.1.trans hts.len, ha, up _ _ G (fun c hc => upd_ne fun q => hc (by simp [q])) g1 g2 g3⟩
      | _ => cases es
    | _ => cases es
end
end PL
set_option Elab.async false
set_option linter.all false
set_option maxRecDepth 100000
set_option autoImplicit false
namespace PL
open PySem PySem.Spec PyProof.Rows L2
section
variable {K : PySem.W.Frag} {en : En} {w : Lg} {s : S} {σ : L2.St} {H : Hp} {pend : List (V × RV)}
/-- a pending tree becomes a thing of the store -/
theorem RS.toOb {a : Addr} {t : T} {qs : List (V × RV)} (r : RS K en w s σ H (pend ++ [(.ref a, .tr t)])) :
    RS K en ⟨w.rho ++ [a], w.Z⟩ { s with ob := s.ob ++ [t] } σ H (pend ++ [(.ref a, .tr (.fz (.obj s.ob.length)))]) := by
  obtain ⟨F1, F2, F3, h1, h2, h3, nd, fr⟩ := r.rep
  obtain ⟨G1, G2, g1, g2, rfl⟩ := h3.split
  have g2 : RepT K w H (.ref a) t G2 := g2.the
  have l : w.le ⟨w.rho ++ [a], w.Z⟩ := ⟨List.prefix_append _ _, fun _ h => h⟩
  have hlen : w.rho.length = s.ob.length := by have := h2.len; rw [List.length_map] at this; exact this
  have m := Mono.refl w H
  have same : ∀ {L : List Addr}, ∀ x ∈ L, H x = H x := fun _ _ => rfl
  have perm : (F1 ++ (F2 ++ G2) ++ (G1 ++ [])).Perm (F1 ++ F2 ++ (G1 ++ G2)) := by
    simp only [List.append_nil, List.append_assoc]
    exact List.Perm.append_left F1 (List.Perm.append_left F2 List.perm_append_comm)
  refine ⟨⟨F1, F2 ++ G2, G1 ++ [], h1.step m l same, ?_, RepVs.app (RepVs.step m l (fun p _ => plOk.self p) same g1) (RepVs.one (p := (V.ref a, RV.tr (.fz (.obj s.ob.length)))) ⟨⟨a, rfl, ?_⟩, rfl⟩), perm.nodup_iff.mpr nd, fun x hx => fr x (perm.mem_iff.mp hx)⟩, r.live, r.frame, r.mono, Lg.le_trans r.le l, r.zz⟩
  · rw [List.map_append]
    exact (h2.step m l same).app ⟨G2, [], RepT.step m l same g2, rfl, by simp⟩
  · show (w.rho ++ [a])[s.ob.length]? = some a
    rw [List.getElem?_append_right (by omega), hlen, Nat.sub_self]
    rfl
end
/-- several expressions in a row -/
def gaOf : List G → GA
  | [] => aNil
  | g :: gs => aCons g (gaOf gs)
def pairsT (K : PySem.W.Frag) : List Str → List G → List (TE × TE)
  | k :: ks, g :: gs => (tC (.str k), tD K g) :: pairsT K ks gs
  | _, _ => []
theorem pairs_of {K : PySem.W.Frag} {en : En} {σ : L2.St} : ∀ {ks : List Str} {gs : List G} {w : Lg} {s s1 : S} {H : Hp} {pend : List (V × RV)} {rvs : List RV} {Q : List (V × V) → Hp → Prop}, ks.length = gs.length → RS K en w s σ H pend → gaOf gs s = .ok rvs s1 →
    (∀ vs H' w', vs.length = rvs.length → RS K en w' s1 σ H' (pend ++ vs.zip rvs) → Q (ks.zip vs |>.map fun p => (V.str p.1, p.2)) H') → tPairs (pairsT K ks gs) σ H Q
  | [], [], w, s, s1, H, pend, rvs, Q, _, r, e, k => by
    cases e
    exact k [] H w rfl (by simpa using r)
  | [], _ :: _, _, _, _, _, _, _, _, h, _, _, _ => by cases h
  | _ :: _, [], _, _, _, _, _, _, _, h, _, _, _ => by cases h
  | x :: ks, g :: gs, w, s, s1, H, pend, rvs, Q, hl, r, e, k => by
    have e : aCons g (gaOf gs) s = .ok rvs s1 := e
    unfold aCons at e
    cases e1 : g s with
    | exc x s => rw [e1] at e; cases e
    | stuck => rw [e1] at e; cases e
    | ok rv s2 =>
      rw [e1] at e
      simp only [R.bind_ok] at e
      cases e2 : gaOf gs s2 with
      | exc x s => rw [e2] at e; cases e
      | stuck => rw [e2] at e; cases e
      | ok rs s3 =>
        rw [e2] at e
        cases e
        show tC (.str x) σ H fun x H1 => tD K g σ H1 fun y H2 => tPairs (pairsT K ks gs) σ H2 fun ps H3 => Q ((x, y) :: ps) H3
        exact tD.first r e1 fun y H2 w2 r2 => pairs_of (Nat.succ.inj hl) r2 e2 fun vs H3 w3 hl3 r3 => k (y :: vs) H3 w3 (by rw [List.length_cons, List.length_cons, hl3]) (by
          rw [List.zip_cons_cons, show pend ++ (y, rv) :: vs.zip rs = (pend ++ [(y, rv)]) ++ vs.zip rs by simp]
          exact r3)
theorem merge_new : ∀ {ks : List Key} {vs : List V} {acc : List (Key × V)}, ks.length = vs.length → ks.Nodup → (∀ k ∈ ks, valV acc k = none) → mergeK acc (ks.zip vs) = acc ++ ks.zip vs
  | [], [], _, _, _, _ => by simp [mergeK]
  | [], _ :: _, _, h, _, _ => by cases h
  | _ :: _, [], _, h, _, _ => by cases h
  | k :: ks, v :: vs, acc, h, nd, hn => by
    have nd := List.nodup_cons.mp nd
    have e1 : putK acc k v = acc ++ [(k, v)] := putK_new v (hn k List.mem_cons_self)
    rw [List.zip_cons_cons]
    show mergeK (putK acc k v) (ks.zip vs) = _
    rw [e1, merge_new (Nat.succ.inj h) nd.2 fun j hj => ?_]
    · simp
    · rw [valV_snoc k j v acc (hn k List.mem_cons_self), if_neg (fun (q : j = k) => nd.1 (by rw [← q]; exact hj))]
      exact hn j (List.mem_cons_of_mem _ hj)
theorem nodup_inr : ∀ {ks : List Str}, ks.Nodup → (ks.map (Sum.inr : Str → Key)).Nodup
  | [], _ => List.nodup_nil
  | k :: ks, h => by
    have h := List.nodup_cons.mp h
    rw [List.map_cons]
    refine List.nodup_cons.mpr ⟨fun q => ?_, nodup_inr h.2⟩
    obtain ⟨j, hj, e⟩ := List.mem_map.mp q
    cases e
    exact h.1 hj
theorem zip_inr : ∀ (ks : List Str) (vs : List V), ((ks.zip vs).map fun p => (V.str p.1, p.2)) = ((ks.map Sum.inr).zip vs).map fun (kv : Key × V) => (kV kv.1, kv.2)
  | [], _ => rfl
  | _ :: _, [] => rfl
  | k :: ks, v :: vs => by
    simp only [List.zip_cons_cons, List.map_cons]
    rw [zip_inr ks vs]
    rfl
def dictv (ks : List Str) (rvs : List RV) (s : S) : R RV := match dats rvs with
  | some ds => if ks.length = ds.length then .ok (.tr (.fz (.obj s.ob.length))) { s with ob := s.ob ++ [.dct (ks.map Sum.inr) (ds.map .fz)] } else .stuck
  | none => .stuck
/-- {'a': x, ..}, a thing of the store -/
def gDictOb (ks : List Str) (gs : List G) : G := fun s => (gaOf gs s).bind (dictv ks)
theorem de_dictOb {X : Cx} {pos : Pos} {keys : List (Option Expr)} {values : List Expr} {ks : List Str} {gs : List G} (h : PPs X pos keys values (pairsT X.K ks gs)) (hall : keys.all (·.isSome) = true) (hl : keys.length = values.length) (h0 : keys ≠ []) (h15 : keys.length ≤ 15) (hg : ks.length = gs.length) (hk : ks.length ≤ 15) (nd : ks.Nodup) :
    PE X (.Dict keys values pos) (tD X.K (gDictOb ks gs)) :=
  PE.imp (pe_disp h hall hl h0 h15) fun σ H Q ⟨en, w, s, pend, r, po⟩ => by
    obtain ⟨rvs, s1, e1, po⟩ := Post.bind po
    intro p n
    have r0 : RS X.K en w s σ (upd H p (.dK [])) (pend ++ [(.ref p, .tr (.dct [] []))]) := by
      have r1 : RS X.K en w s σ H (pend ++ ([] : List (V × T)).map fun q => (q.1, RV.tr q.2)) := by simpa using r
      exact r1.newOver n fun F hF => ⟨p, [], [], rfl, ⟨rfl, List.nodup_nil⟩, upd_same, rfl, by rw [show F = [] from hF]⟩
    refine pairs_of hg r0 e1 fun vs H1 w1 hlen r1 => ?_
    unfold dictv at po
    split at po
    case h_2 => exact po.elim
    rename_i ds e2
    split at po
    case isFalse => exact po.elim
    rename_i hkd
    have eq := dats_eq e2
    subst eq
    rw [List.length_map] at hlen
    have hD := r1.argsD hlen
    have r2 := r1.drop
    obtain ⟨F1, F2, F3, g1, g2, g3, gnd, gfr⟩ := r2.rep
    obtain ⟨G1, G2, k1, k2, rfl⟩ := g3.split
    obtain ⟨a, us, F', ea, _, hH, hus, rfl⟩ := (k2.the : RepT X.K w1 H1 (.ref p) (.dct [] []) G2)
    cases ea
    have hus0 : us = [] := by
      cases us with
      | nil => rfl
      | cons _ _ => exact hus.elim
    subst hus0
    have hkv : ks.length = vs.length := by rw [hkd, hlen]
    have nd2 : (ks.map (Sum.inr : Str → Key)).Nodup := nodup_inr nd
    have em : mergeK [] ((ks.map (Sum.inr : Str → Key)).zip vs) = (ks.map (Sum.inr : Str → Key)).zip vs := by
      have := merge_new (ks := ks.map (Sum.inr : Str → Key)) (vs := vs) (acc := []) (by rw [List.length_map]; exact hkv) nd2 (fun _ _ => rfl)
      simpa using this
    refine ⟨hH, (ks.map Sum.inr).zip vs, ?_, ?_, ?_⟩
    · exact zip_inr ks vs
    · rw [List.length_zip, List.length_map]; omega
    · rw [em]
      have hz : ¬ w1.Z p := (gfr p (by simp)).2
      have m : Mono w1 H1 (upd H1 p (.dK ((ks.map (Sum.inr : Str → Key)).zip vs))) := Mono.off (F := [p]) (fun x hx => by
        rw [List.mem_singleton.mp hx]; exact ⟨⟨_, hH, True.intro⟩, hz⟩) fun x hx => upd_ne fun e => hx (by simp [e])
      have F'0 : F' = [] := hus
      subst F'0
      have np : p ∉ F1 ++ F2 ++ G1 := by
        have : (F1 ++ F2 ++ (G1 ++ [p])).Perm (p :: (F1 ++ F2 ++ G1)) := by
          rw [← List.append_assoc]
          exact List.perm_append_comm
        exact (List.nodup_cons.mp (this.nodup_iff.mp gnd)).1
      have off : ∀ {L : List Addr}, (∀ x ∈ L, x ∈ F1 ++ F2 ++ G1) → ∀ x ∈ L, upd H1 p (.dK ((ks.map (Sum.inr : Str → Key)).zip vs)) x = H1 x := fun hL x hx => upd_ne fun e => np (e ▸ hL x hx)
      have r3 : RS X.K en w1 s1 σ (upd H1 p (.dK ((ks.map (Sum.inr : Str → Key)).zip vs))) (pend ++ [(.ref p, .tr (.dct (ks.map Sum.inr) (ds.map .fz)))]) := by
        refine ⟨⟨F1, F2, G1 ++ [p], g1.step m (Lg.le_refl w1) (off fun x hx => by simp [hx]), g2.step m (Lg.le_refl w1) (off fun x hx => by simp [hx]),
          RepVs.app (RepVs.step m (Lg.le_refl w1) (fun p _ => plOk.self p) (off fun x hx => by simp [hx]) k1) (RepVs.one (p := (V.ref p, RV.tr (.dct (ks.map Sum.inr) (ds.map .fz)))) ⟨p, vs, [], rfl, ⟨by rw [List.length_map]; exact hkv, nd2⟩, upd_same, RepTs.ofFz (hD.mono m (Lg.le_refl w1)), rfl⟩), gnd, gfr⟩, r2.live, fun a o e => ?_, r2.mono.trans m r2.le, r2.le, fun a z => ?_⟩
        · by_cases q : a = p
          · subst q
            rcases (gfr a (by simp)).1 with z | z
            · rw [z] at e; cases e
            · exact .inl z
          · rcases r2.frame a o e with z | z
            · exact .inl z
            · exact .inr (by rw [upd_ne q]; exact z)
        · obtain ⟨⟨xs, e⟩, h⟩ := r2.zz a z
          exact ⟨⟨xs, (m.fro a z).trans e⟩, h⟩
      exact po _ _ _ (r3.toOb (qs := []))
/-! d[k] op= v; d[k] = v -/
def dputv (rd rk : RV) (rv : RV) (s : S) : O := match rv with
  | .tr t => match dctAt s rd with
    | some (ks, ts) => match (dat s rk).bind keyD with
      | some k => if ks.length < sizeLine then match dctSet s rd (.dct (dPut ks ts k t).1 (dPut ks ts k t).2) with
        | some s' => .next s'
        | none => .stuck
        else .stuck
      | none => .stuck
    | none => .stuck
  | _ => .stuck
theorem dput_of {K : PySem.W.Frag} {en : En} {w : Lg} {s : S} {σ : L2.St} {H : Hp} {pend : List (V × T)} {D : Ends} {qs : List (V × RV)} {x y z : V} {rx ry rz : RV} (r : RS K en w s σ H (trs pend ++ qs ++ [(z, rz)])) (hx : (x, rx) ∈ qs) (hy : (y, ry) ∈ qs) (po : PostS K en pend D (dputv rx ry rz s)) :
    ∃ a H4, x = .ref a ∧ DPut H a y z H4 ∧ D.nx σ H4 := by
  unfold dputv at po
  cases rz with
  | pl _ => exact po.elim
  | tr t =>
    dsimp only at po
    split at po
    case h_2 => exact po.elim
    rename_i ks ts e1
    split at po
    case h_2 => exact po.elim
    rename_i k e2
    split at po
    case isFalse => exact po.elim
    rename_i hz
    split at po
    case h_2 => exact po.elim
    rename_i s' e3
    obtain ⟨a, vs, rfl, hl, hl2, ha, r2⟩ := r.dput (v := x) (rv := rx) (by simp [hx]) e1 e3
    cases e5 : PL.dat s ry with
    | none => rw [e5] at e2; cases e2
    | some dk =>
      rw [e5] at e2
      have ey := keyV (r.dat_ (v := y) (rv := ry) (by simp [hy]) e5) e2
      subst ey
      exact ⟨a, _, rfl, DPut.k ha (by rw [List.length_zip]; omega), po σ _ w r2.drop⟩
def sDPut (gd gk g : G) : GS := fun s => (gNp g s).bindO fun rz s1 => (gd s1).bindO fun rx s2 => (gk s2).bindO fun ry s3 => dputv rx ry rz s3
def sDAug (gd gk : G) (p : S → RV → RV → R RV) (g : G) : GS := fun s => (gd s).bindO fun rx s1 => (gk s1).bindO fun ry s2 => (pDGet s2 rx ry).bindO fun ro s3 => (g s3).bindO fun rv s4 => (p s4 ro rv).bindO fun rz s5 => dputv rx ry rz s5
section
variable {X : Cx} {o i e : Expr} {gd gk ga : G} {pos tpos : Pos}
theorem ds_dput (hu : X.A.units + 1 < cLine) (ho : PE X o (tD X.K gd)) (hi : PE X i (tD X.K gk)) (hv : PE X e (tD X.K ga)) (hs : swapsWith e (some (.Subscript o i tpos)) pos.line X.env = pure false) : PS X (.Assign [.Subscript o i tpos] e pos) (tDs X.K (sDPut gd gk ga)) :=
  PS.imp (ps_dput hu ho hi (de_np hv) hs) fun D σ H ⟨en, w, s, pend, r, po⟩ => by
    obtain ⟨rz, s1, e1, po⟩ := PostS.bind po
    obtain ⟨rx, s2, e2, po⟩ := PostS.bind po
    obtain ⟨ry, s3, e3, po⟩ := PostS.bind po
    refine tD.first r e1 fun z H1 w1 r1 => tD.first r1 e2 fun x H2 w2 r2 => tD.first r2 e3 fun y H3 w3 r3 => ?_
    cases rz with
    | pl _ => exact po.elim
    | tr t =>
      have r4 : RS X.K en w3 s3 σ H3 (trs pend ++ [(x, rx), (y, ry)] ++ [(z, .tr t)]) := by
        obtain ⟨F1, F2, F3, h1, h2, h3, nd, fr⟩ := r3.rep
        obtain ⟨G12, G3, g12, g3, rfl⟩ := h3.split
        obtain ⟨G1', G2, g1', g2, rfl⟩ := g12.split
        obtain ⟨G0, G1, g0, g1, rfl⟩ := g1'.split
        have perm : (F1 ++ F2 ++ (G0 ++ (G2 ++ G3) ++ G1)).Perm (F1 ++ F2 ++ (G0 ++ G1 ++ G2 ++ G3)) := by
          refine List.Perm.append_left _ ?_
          simp only [List.append_assoc]
          refine List.Perm.append_left G0 ?_
          rw [← List.append_assoc]
          exact List.perm_append_comm
        exact ⟨⟨F1, F2, G0 ++ (G2 ++ G3) ++ G1, h1, h2, (g0.app (g2.app g3)).app g1, perm.nodup_iff.mpr nd, fun a ha => fr a (perm.mem_iff.mp ha)⟩, r3.live, r3.frame, r3.mono, r3.le, r3.zz⟩
      exact dput_of r4 (x := x) (y := y) (rx := rx) (ry := ry) (by simp) (by simp) po
theorem ds_daug {op : Operator} {r2 : R2} {p : S → RV → RV → R RV} (hu : X.A.units + 1 < cLine) (ho : PE X o (tD X.K gd)) (hi : PE X i (tD X.K gk)) (hv : PE X e (tD X.K ga)) (hop : OpR X (inplaceOp op) r2) (hS : OpS X.K r2 p)
    (ha : ∀ ov iv new, augStore i ov iv new = (do holding [new, ov, iv] (setItem ov iv new); release [new, ov, iv] []; pure .next)) : PS X (.AugAssign (.Subscript o i tpos) op e pos) (tDs X.K (sDAug gd gk p ga)) :=
  PS.imp (ps_daug (rd := r2) hu ho hi hv hop ha) fun D σ H ⟨en, w, s, pend, r, po⟩ => by
    obtain ⟨rx, s1, e1, po⟩ := PostS.bind po
    obtain ⟨ry, s2, e2, po⟩ := PostS.bind po
    obtain ⟨ro, s3, e3, po⟩ := PostS.bind po
    obtain ⟨rv, s4, e4, po⟩ := PostS.bind po
    obtain ⟨rz, s5, e5, po5⟩ := PostS.bind po
    refine tD.first r e1 fun x H1 w1 r1 => tD.first r1 e2 fun y H2 w2 r2' => ?_
    unfold pDGet at e3
    split at e3
    case h_2 => cases e3
    rename_i ks ts f1
    split at e3
    case h_2 => cases e3
    rename_i k f2
    split at e3
    case h_2 => cases e3
    rename_i j f3
    split at e3
    case h_2 => cases e3
    rename_i d f4
    cases e3
    obtain ⟨a, v, rfl, g, hv, ey⟩ := r2'.dval (x := x) (y := y) (rx := rx) (ry := ry) (by simp) (by simp) f1 f2 f3 f4
    refine ⟨a, v, rfl, g, ?_⟩
    refine tD.first (r2'.pushD hv) e4 fun u H3 w3 r3 => ?_
    refine hS en w3 s4 σ H3 _ v u _ rv _ r3 ?_
    rw [e5]
    intro z H4 w4 r4
    have r4' : RS X.K en w4 s5 σ H4 (trs pend ++ [(.ref a, rx), (y, ry)] ++ [(z, rz)]) := by simpa using r4
    obtain ⟨b, H5, eb, hp, hn⟩ := dput_of r4' (x := .ref a) (y := y) (rx := rx) (ry := ry) (by simp) (by simp) po5
    cases eb
    exact ⟨H5, hp, hn⟩
end
end PL
set_option Elab.async false
set_option linter.all false
set_option maxRecDepth 100000
set_option autoImplicit false
namespace PL
open PySem PySem.Spec PyProof.Rows L2
theorem fn_zero {P : Program} {w : World} {K : PySem.W.Frag} {mg : Str → Option Value} {base : Heap} {f : Addr} {fd : FuncData} {ps : List Str} {k n : Nat} : FnOk P w K mg base CX0 k f fd ps (spD K (fun _ _ => .stuck) n) :=
  ⟨fun vs H Q E ⟨_, _, _, _, _, _, _, _, _, _, po⟩ => po.elim, fun A outer s H args us vs Q E _ _ _ _ ⟨_, _, _, _, _, _, _, _, _, _, po⟩ => po.elim⟩
def Vz (sc : Scope) (x : Str) : Bool := sc.names.lookup x == some .local || sc.names.lookup x == some .cell || sc.names.lookup x == some .free
theorem Vz_ok {sc : Scope} {x : Str} (h : Vz sc x = true) : sc.names.lookup x = some .local ∨ sc.names.lookup x = some .cell ∨ sc.names.lookup x = some .free := by
  rcases (Bool.or_eq_true _ _).mp h with h | h
  · rcases (Bool.or_eq_true _ _).mp h with h | h
    · exact .inl (eq_of_beq h)
    · exact .inr (.inl (eq_of_beq h))
  · exact .inr (.inr (eq_of_beq h))
def Sz (sc : Scope) (x : Str) : Bool := sc.names.lookup x == some .local || sc.names.lookup x == some .cell
theorem Sz_ok {sc : Scope} {x : Str} (h : Sz sc x = true) : Loc sc x := by
  rcases (Bool.or_eq_true _ _).mp h with h | h
  · exact .inl (eq_of_beq h)
  · exact .inr (eq_of_beq h)
section
variable {K : PySem.W.Frag} {I : List FI} {free : List Str} {F : Fns} {k : Nat} {N : List Str} {sc : Scope} {st : Str → Bool} {X : Cx}
theorem cFree (c : Ctx K I free F k N sc st X) (i : Nat) {x : Str} (h : free[i]? = some x) : X.mg x = none := c.free_ x (List.mem_of_getElem? h)
theorem cNd (c : Ctx K I free F k N sc st X) : X.N.Nodup := by rw [c.N_]; exact c.nd
theorem cSlot (c : Ctx K I free F k N sc st X) {i : Nat} {x : Str} (h : N[i]? = some x) : X.N[i]? = some x := by rw [c.N_]; exact h
theorem cLoc (c : Ctx K I free F k N sc st X) {x : Str} (h : Sz sc x = true) : Loc X.env.scope x := by rw [c.sc_]; exact Sz_ok h
theorem cLocal (c : Ctx K I free F k N sc st X) {x : Str} (h : sc.names.lookup x = some .local) : X.env.scope.names.lookup x = some .local := by rw [c.sc_]; exact h
theorem cV (c : Ctx K I free F k N sc st X) (i : Nat) {x : Str} {pos : Pos} (hN : N[i]? = some x) (hv : Vz sc x = true) (hd : (x == ("__debug__" : Str)) = false) (hcd : (x == ("__classdict__" : Str)) = false) :
    PE X (.Name x pos) (tD X.K (gVar i)) := cv c i hN (Vz_ok hv) hd hcd
variable {e a b tg iter elt : Expr} {es : List Expr} {ga gb : G} {gs : GA} {gi : GI} {gt : GT} {g h : GS} {p pos : Pos}
/-- built-ins by name -/
theorem cB (c : Ctx K I free F k N sc st X) {x : Str} {id : String} {r : List V → Hp → VK → Prop} {q : S → List RV → R RV} (i : Nat) (hc : CallR X (.builtin id) r) (hS : CallS X.K r q) (hi : free[i]? = some x) (hg : sc.names.lookup x = some .globalImplicit) (hv : bootBuiltins x = some (.builtin id))
    (hn : x ≠ "__name__") (hdb : (x == ("__debug__" : Str)) = false) (ha : PA X (e :: es) (tDa X.K gs)) (he : starEach (e :: es) X.env = (false, eval e X.env) :: starEach es X.env) (hpl : (backTo pos (starEach es X.env)).any (·.1) = false) : PE X (.Call (.Name x p) (e :: es) [] pos) (tD X.K (gCB q gs)) :=
  de_callB hc hS (cGl c hg) (cFree c i hi) hv ha hn hdb he hpl
theorem cT (c : Ctx K I free F k N sc st X) {x : Str} {id : String} {r : List V → Hp → VK → Prop} {q : S → List RV → R RV} (i : Nat) (hc : CallR X (.type id) r) (hS : CallS X.K r q) (hi : free[i]? = some x) (hg : sc.names.lookup x = some .globalImplicit) (hv : bootBuiltins x = some (.type id))
    (hn : x ≠ "__name__") (hdb : (x == ("__debug__" : Str)) = false) (ha : PA X (e :: es) (tDa X.K gs)) (he : starEach (e :: es) X.env = (false, eval e X.env) :: starEach es X.env) (hpl : (backTo pos (starEach es X.env)).any (·.1) = false) : PE X (.Call (.Name x p) (e :: es) [] pos) (tD X.K (gCB q gs)) :=
  de_callTy hc hS (cGl c hg) (cFree c i hi) hv ha hn hdb he hpl
theorem cAsg (c : Ctx K I free F k N sc st X) (i : Nat) {x : Str} {pos' : Pos} (hi : N[i]? = some x) (hx : Sz sc x = true) (hst : st x = true) (he : PE X e (tD X.K ga)) (hs : swapsWith e (some (.Name x pos')) pos.line X.env = pure false) : PS X (.Assign [.Name x pos'] e pos) (tDs X.K (sAsg i ga)) :=
  ds_asg (cNd c) (cSlot c hi) (cLoc c hx) he hs (c.fn x hst)
theorem cAug (c : Ctx K I free F k N sc st X) (i : Nat) {x : Str} {op : Operator} {r2 : R2} {q : S → RV → RV → R RV} {pos' : Pos} (hi : N[i]? = some x) (hx : Sz sc x = true) (hst : st x = true) (he : PE X e (tD X.K ga)) (ho : OpR X (inplaceOp op) r2) (hS : OpS X.K r2 q) :
    PS X (.AugAssign (.Name x pos') op e pos) (tDs X.K (sAug i q ga)) := ds_aug (cNd c) (cSlot c hi) (cLoc c hx) he ho hS (c.fn x hst)
theorem cPgN (c : Ctx K I free F k N sc st X) (i : Nat) {x : Str} (hi : N[i]? = some x) (hx : Sz sc x = true) (hst : st x = true) : PG X (.Name x pos) (gName i) := pg_name (cNd c) (cSlot c hi) (cLoc c hx) (c.fn x hst)
theorem cFor (c : Ctx K I free F k N sc st X) {body : List Stmt} {t : TG} {is : List Nat} {gg : GG} (hi : PI X tg iter (tDi X.K gi)) (hg : PG X tg t) (hd : DG X.K t is gg) (hb : PSs X body (tDs X.K g)) (hs : ∀ x, foldedSetIterable iter X.env x = pure x) :
    PS X (.For tg iter body [] pos) (tDs X.K (sFor gi gg g)) := ds_for c.own c.calm hi hg hd hb hs
theorem cWhile (c : Ctx K I free F k N sc st X) (n : Nat) {body : List Stmt} (hc : PT X e (tDt X.K gt)) (hb : PSs X body (tDs X.K g)) : PS X (.While e body [] pos) (tDs X.K (sWhile n gt g)) := ds_while n c.own hc hb
theorem cIx (c : Ctx K I free F k N sc st X) (ha : PE X a (tD X.K ga)) (hb : PE X b (tD X.K gb)) (hs : PlainIx b) : PE X (.Subscript a b pos) (tD X.K (gOp pIx4 ga gb)) := de_ix (ix_4 (by have := cu c; omega)) opS_ix4 ha hb hs
theorem cEq (c : Ctx K I free F k N sc st X) (ha : PE X a (tD X.K ga)) (hb : PE X b (tD X.K gb)) : PE X (.Compare a [.Eq] [b] pos) (tD X.K (gOp pEq ga gb)) := de_cmp (op_eqD (by have := cu c; omega)) opS_eq ha hb (nomark _)
theorem cNe (c : Ctx K I free F k N sc st X) (ha : PE X a (tD X.K ga)) (hb : PE X b (tD X.K gb)) : PE X (.Compare a [.NotEq] [b] pos) (tD X.K (gOp pNe ga gb)) := de_cmp (op_neD (by have := cu c; omega)) opS_ne ha hb (nomark _)
theorem cIn (c : Ctx K I free F k N sc st X) (ha : PE X a (tD X.K ga)) (hb : PE X b (tD X.K gb)) (hm : behindInMarks .In b = false) : PE X (.Compare a [.In] [b] pos) (tD X.K (gOp pIn ga gb)) := de_cmp (op_in3 (cu c)) opS_in ha hb hm
theorem cNotIn (c : Ctx K I free F k N sc st X) (ha : PE X a (tD X.K ga)) (hb : PE X b (tD X.K gb)) (hm : behindInMarks .NotIn b = false) : PE X (.Compare a [.NotIn] [b] pos) (tD X.K (gOp pNotIn ga gb)) := de_cmp (op_notIn3 (cu c)) opS_notIn ha hb hm
theorem tEq (c : Ctx K I free F k N sc st X) (ha : PE X a (tD X.K ga)) (hb : PE X b (tD X.K gb)) : PT X (.Compare a [.Eq] [b] pos) (tDt X.K (gB (gOp pEq ga gb))) := dt_cmp (op_eqD (by have := cu c; omega)) opS_eq ha hb (nomark _)
theorem tNe (c : Ctx K I free F k N sc st X) (ha : PE X a (tD X.K ga)) (hb : PE X b (tD X.K gb)) : PT X (.Compare a [.NotEq] [b] pos) (tDt X.K (gB (gOp pNe ga gb))) := dt_cmp (op_neD (by have := cu c; omega)) opS_ne ha hb (nomark _)
theorem tIn (c : Ctx K I free F k N sc st X) (ha : PE X a (tD X.K ga)) (hb : PE X b (tD X.K gb)) (hm : behindInMarks .In b = false) : PT X (.Compare a [.In] [b] pos) (tDt X.K (gB (gOp pIn ga gb))) := dt_cmp (op_in3 (cu c)) opS_in ha hb hm
theorem tNotIn (c : Ctx K I free F k N sc st X) (ha : PE X a (tD X.K ga)) (hb : PE X b (tD X.K gb)) (hm : behindInMarks .NotIn b = false) : PT X (.Compare a [.NotIn] [b] pos) (tDt X.K (gB (gOp pNotIn ga gb))) := dt_cmp (op_notIn3 (cu c)) opS_notIn ha hb hm
theorem cLc (c : Ctx K I free F k N sc st X) {ifs : List Expr} {scope : Scope} (own : List (Str × Nat)) {t : TG} {gg : GG} {ge : G} (ok : blkC N sc scope own = true) (hi : PI X tg iter (tDi X.K gi)) (hdg : DG X.K t (own.map (·.2)) gg)
    (hb : ∀ Y, Ctx K I free F k N (relS scope sc) (stOf scope) Y → Y.K = X.K → PG Y tg t ∧ PTs Y ifs (tDt Y.K gt) ∧ PE Y elt (tD Y.K ge)) (hs : ∀ x, foldedSetIterable iter X.env x = pure x) :
    PE X (.ListComp elt [⟨tg, iter, ifs, 0⟩] scope pos) (tD X.K (gComp (own.map (·.2)) gi gg gt ge)) :=
  de_lc c.calm (cNd c) hi (by rw [c.N_, c.sc_]; exact blkOk_by ok) hdg (fun s H C cl fp => (hb _ (cBlk c scope s H C cl fp) rfl).1) (fun s H C cl fp => (hb _ (cBlk c scope s H C cl fp) rfl).2.1) (fun s H C cl fp => (hb _ (cBlk c scope s H C cl fp) rfl).2.2) hs
/-- name = [..] on one line -/
theorem cSetLc (c : Ctx K I free F k N sc st X) (i : Nat) {y : Str} {py pos : Pos} {ifs : List Expr} {scope : Scope} {spos : Pos} (own : List (Str × Nat)) {t : TG} {gg : GG} {ge : G} (hy : N[i]? = some y) (hyl : sc.names.lookup y = some .local)
    (hsw : swapsWith (.ListComp elt [⟨tg, iter, ifs, 0⟩] scope pos) (some (.Name y py)) spos.line X.env = pure true) (ok : blkC N sc scope own = true) (hi : PI X tg iter (tDi X.K gi)) (hdg : DG X.K t (own.map (·.2)) gg)
    (hb : ∀ Y, Ctx K I free F k N (relS scope sc) (stOf scope) Y → Y.K = X.K → PG Y tg t ∧ PTs Y ifs (tDt Y.K gt) ∧ PE Y elt (tD Y.K ge)) (hs : ∀ x, foldedSetIterable iter X.env x = pure x) :
    PS X (.Assign [.Name y py] (.ListComp elt [⟨tg, iter, ifs, 0⟩] scope pos) spos) (tDs X.K (sAsg i (gComp (own.map (·.2)) gi gg gt ge))) :=
  PS.imp (ps_setLc (own := own) (te := tD X.K (gNp ge)) c.calm (cNd c) (cSlot c hy) (cLocal c hyl) hsw hi (by rw [c.N_, c.sc_]; exact blkOk_by ok) (fun s H C cl fp => (hb _ (cBlk c scope s H C cl fp) rfl).1) (fun s H C cl fp => (hb _ (cBlk c scope s H C cl fp) rfl).2.1)
    (fun s H C cl fp => de_np (hb _ (cBlk c scope s H C cl fp) rfl).2.2) hs) fun D σ H q => by
      obtain ⟨en, w, s, pend, r, po⟩ := q
      obtain ⟨rv, s1, e1, po⟩ := PostS.bind po
      have goal : tD X.K (gComp (own.map (·.2)) gi gg gt ge) σ H (fun x H1 => gName i x σ H1 D.nx) := ?_
      · exact comp_turns hdg goal
      refine ⟨en, w, s, trs pend, r, ?_⟩
      have key : ∀ {r0 : R RV}, gNp (fun _ => r0) s = .ok rv s1 → (∀ i s', r0 ≠ .ok (.pl i) s') → r0 = .ok rv s1 := fun {r0} h hn => by
        cases r0 with
        | ok a s' =>
          cases a with
          | tr t => exact h
          | pl i => exact absurd rfl (hn i s')
        | exc x s' => cases h
        | stuck => cases h
      have e2 : gComp (own.map (·.2)) gi gg gt ge s = .ok rv s1 := by
        refine key e1 fun i s' e => ?_
        unfold gComp at e
        cases q1 : gi s with
        | exc x s => rw [q1] at e; cases e
        | stuck => rw [q1] at e; cases e
        | ok ds s2 =>
          rw [q1] at e
          simp only [R.bind_ok] at e
          split at e
          · cases q2 : compGo (own.map (·.2)) gg gt ge ds [] s2 with
            | exc x s => rw [q2] at e; cases e
            | stuck => rw [q2] at e; cases e
            | ok ts s3 => rw [q2] at e; cases e
          · cases e
      rw [e2]
      intro v H1 w1 r1
      cases rv with
      | pl j => exact po.elim
      | tr t =>
        dsimp only at po
        split at po
        · rename_i hi
          exact po _ H1 w1 (r1.store hi (NoPl.trs i pend))
        · exact po.elim
theorem cAppend (c : Ctx K I free F k N sc st X) (i : Nat) {x : Str} {apos cpos : Pos} (hN : N[i]? = some x) (hv : Vz sc x = true) (hd : (x == ("__debug__" : Str)) = false) (hcd : (x == ("__classdict__" : Str)) = false) (he : PE X e (tD X.K ga))
    (hs : swapsWith (.Call (.Attribute (.Name x p) "append" apos) [e] [] cpos) none pos.line X.env = pure false)
    (hPE : PE X (.Name x p) (tVar i) → PA X [e] (tDa X.K (aCons (gNp ga) aNil)) → PE X (.Call (.Attribute (.Name x p) "append" apos) [e] [] cpos) (tBM X.K "list" rAppend (tVar i) (tDa X.K (aCons (gNp ga) aNil))))
    (hst : starEach [e] X.env = (false, eval e X.env) :: starEach [] X.env) (hb : attributeBase (.Name x p) "append" X.env (eval (.Name x p) X.env) = eval (.Name x p) X.env) :
    PS X (.Expr (.Call (.Attribute (.Name x p) "append" apos) [e] [] cpos) pos) (tDs X.K (sAppend i ga)) := ds_append i (cSlot c hN) (cVis c (Vz_ok hv)) he hs hd hcd hb hPE hst
theorem cExtend (c : Ctx K I free F k N sc st X) (i : Nat) {x : Str} {apos cpos : Pos} (hN : N[i]? = some x) (hv : Vz sc x = true) (hd : (x == ("__debug__" : Str)) = false) (hcd : (x == ("__classdict__" : Str)) = false) (he : PE X e (tD X.K ga))
    (hs : swapsWith (.Call (.Attribute (.Name x p) "extend" apos) [e] [] cpos) none pos.line X.env = pure false)
    (hPE : PE X (.Name x p) (tVar i) → PA X [e] (tDa X.K (aCons ga aNil)) → PE X (.Call (.Attribute (.Name x p) "extend" apos) [e] [] cpos) (tBM X.K "list" rExtend (tVar i) (tDa X.K (aCons ga aNil))))
    (hst : starEach [e] X.env = (false, eval e X.env) :: starEach [] X.env) :
    PS X (.Expr (.Call (.Attribute (.Name x p) "extend" apos) [e] [] cpos) pos) (tDs X.K (sExtend i ga)) := ds_extend i (cSlot c hN) (cVis c (Vz_ok hv)) he hs hd hcd hPE hst
theorem cDAug (c : Ctx K I free F k N sc st X) {o i : Expr} {gd gk : G} {tpos : Pos} {op : Operator} {r2 : R2} {q : S → RV → RV → R RV} (ho : PE X o (tD X.K gd)) (hi : PE X i (tD X.K gk)) (hv : PE X e (tD X.K ga)) (hop : OpR X (inplaceOp op) r2) (hS : OpS X.K r2 q)
    (ha : ∀ ov iv new, augStore i ov iv new = (do holding [new, ov, iv] (setItem ov iv new); release [new, ov, iv] []; pure .next)) : PS X (.AugAssign (.Subscript o i tpos) op e pos) (tDs X.K (sDAug gd gk q ga)) := ds_daug (by have := cu c; omega) ho hi hv hop hS ha
theorem cDPut (c : Ctx K I free F k N sc st X) {o i : Expr} {gd gk : G} {tpos : Pos} (ho : PE X o (tD X.K gd)) (hi : PE X i (tD X.K gk)) (hv : PE X e (tD X.K ga)) (hs : swapsWith e (some (.Subscript o i tpos)) pos.line X.env = pure false) : PS X (.Assign [.Subscript o i tpos] e pos) (tDs X.K (sDPut gd gk ga)) :=
  ds_dput (by have := cu c; omega) ho hi hv hs
theorem cPar (c : Ctx K I free F k N sc st X) (i j : Nat) {x y : Str} {px py pt : Pos} {kt k2 pt2} (hi : N[i]? = some x) (hj : N[j]? = some y) (hij : i ≠ j) (hx : sc.names.lookup x = some .local) (hy : sc.names.lookup y = some .local) (ha : PA X [a, b] (tDa X.K gs))
    (hw : swappedStores [.Tuple [.Name x px, .Name y py] kt pt] (.Tuple [a, b] k2 pt2) X.env = pure (some [x, y]))
    (hs : swapsWithSole [.Tuple [.Name x px, .Name y py] kt pt] (.Tuple [a, b] k2 pt2) pos.line X.env = pure false) :
    PS X (.Assign [.Tuple [.Name x px, .Name y py] kt pt] (.Tuple [a, b] k2 pt2) pos) (tDs X.K (sPar i j gs)) := ds_par c.calm (cNd c) (cSlot c hi) (cSlot c hj) hij (cLocal c hx) (cLocal c hy) ha hw hs
end
end PL
set_option Elab.async false
set_option linter.all false
set_option maxRecDepth 100000
set_option autoImplicit false
namespace PL
open PySem PySem.Spec PyProof.Rows L2
theorem bt_len : bootBuiltins "len" = some (.builtin "len") := by decide +kernel
theorem bt_isinstance : bootBuiltins "isinstance" = some (.builtin "isinstance") := by decide +kernel
theorem bt_abs : bootBuiltins "abs" = some (.builtin "abs") := by decide +kernel
theorem bt_max : bootBuiltins "max" = some (.builtin "max") := by decide +kernel
theorem bt_min : bootBuiltins "min" = some (.builtin "min") := by decide +kernel
theorem bt_int : bootBuiltins "int" = some (.type "int") := by decide +kernel
theorem bt_str : bootBuiltins "str" = some (.type "str") := by decide +kernel
theorem bt_bool : bootBuiltins "bool" = some (.type "bool") := by decide +kernel
theorem bt_list : bootBuiltins "list" = some (.type "list") := by decide +kernel
theorem bt_tuple : bootBuiltins "tuple" = some (.type "tuple") := by decide +kernel
theorem bt_dict : bootBuiltins "dict" = some (.type "dict") := by decide +kernel
theorem bt_set : bootBuiltins "set" = some (.type "set") := by decide +kernel
theorem bt_range : bootBuiltins "range" = some (.type "range") := by decide +kernel
end PL
namespace PL
open PySem PySem.Spec PyProof.Rows L2
abbrev pAddI := pI (fun _ _ => true) fun i j => .int (i + j)
theorem opS_addI {K : PySem.W.Frag} : OpS K (rI0 fun i j => .int (i + j)) pAddI := opS_I0 fun _ _ _ _ => rfl
def whileMost : Nat := 1000000
theorem sw_cell {elt : Expr} {gs : List Comprehension} {scope : Scope} {pos py : Pos} {y : Str} {l : Nat} {env : Env} (hy : env.scope.names.lookup y = some .cell) : swapsWith (.ListComp elt gs scope pos) (some (.Name y py)) l env = pure false := by
  have ky : env.kindOf y = some .cell := hy
  unfold swapsWith
  simp only [ky]
  have e : (some NameKind.cell == some NameKind.local) = false := rfl
  rw [e]
  simp only [Bool.and_false, Bool.false_and]
def isStar : Expr → Bool
  | .Starred .. => true
  | _ => false
theorem sw_par {env : Env} {x y : Str} {px py pt pt2 : Pos} {kt k2} {a b : Expr} (hk : env.scope.kind = .function) (hx : env.scope.names.lookup x = some .local) (hy : env.scope.names.lookup y = some .local) (hl : (py.line == px.line) = true) (hne : (y == x) = false)
    (ha : isStar a = false) (hb : isStar b = false) (hf : (foldedForSure 8 a && foldedForSure 8 b) = false) (hc : (constantsAlone 8 a && constantsAlone 8 b) = false) :
    swappedStores [.Tuple [.Name x px, .Name y py] kt pt] (.Tuple [a, b] k2 pt2) env = pure (some [x, y]) := by
  have kx : env.kindOf x = some .local := hx
  have ky : env.kindOf y = some .local := hy
  have hbk : env.blockKind = .function := by unfold Env.blockKind; rw [hk]; rfl
  have e1 : (some NameKind.local == some NameKind.local) = true := rfl
  have hpx : (px.line == px.line) = true := beq_self_eq_true _
  have hed : ([x, y].eraseDups.length != [x, y].length) = false := by
    have : [x, y].eraseDups = [x, y] := by
      simp [List.eraseDups_cons, hne]
    rw [this]
    rfl
  have hfs : ([a, b].all (foldedForSure 8)) = false := by
    simp only [List.all_cons, List.all_nil, Bool.and_true]; exact hf
  have hcs : ([a, b].all (constantsAlone 8)) = false := by
    simp only [List.all_cons, List.all_nil, Bool.and_true]; exact hc
  unfold swappedStores
  have hp : ∀ p : Pos, (Expr.Name x p).pos = p := fun _ => rfl
  have hz : (ScopeKind.function != ScopeKind.function) = false := rfl
  simp only [hbk, List.head?_cons, Option.map_some, Option.getD_some, hp, List.length_cons, List.length_nil, hz, Bool.or_false, List.filterMap_cons, List.filterMap_nil, kx, ky, e1, hpx, hl, Bool.and_self, if_true, List.any_cons, List.any_nil]
  simp only [List.length_cons, List.length_nil] at hed
  split
  · rename_i q
    simp at q
  · have na : ∀ (c : Expr), isStar c = false → (match c with
        | .Starred _ _ => true
        | _ => false) = false := fun c h => by
      cases c <;> first | rfl | cases h
    have hx2 : (0 + 1 + 1 != 0 + 1 + 1 || [x, y].eraseDups.length != 0 + 1 + 1) = false := by rw [hed]; rfl
    have h2 := na a ha
    have h3 := na b hb
    rw [hx2]
    split
    · cases ha
    · simp only [hfs, hcs, Bool.or_false, Bool.false_or, Bool.false_eq_true, if_false]
      split
      · cases hb
      · rfl
end PL
set_option Elab.async false
set_option linter.all false
set_option maxRecDepth 100000
set_option autoImplicit false
namespace PL
open PySem PySem.Spec PyProof.Rows L2
/-- a def of the top, as a datum -/
structure FD where
  nm : Str
  ps : List Str
  N : List Str
  st : Stmt
  n : Nat
def FD.fi (d : FD) : FI := ⟨d.nm, d.ps⟩
def FD.dd (d : FD) : He.DefD := ⟨(d.nm, none), d.nm, d.nm, defArgs d.st, defBody d.st, defScope d.st, [], []⟩
def FkOf (ns : Nat → Nat) (gs : Fns → Nat → GS) : Nat → Fns
  | 0 => fun _ _ _ => .stuck
  | k + 1 => fun i => fnD (ns i) (gs (FkOf ns gs k) i)
abbrev FnP (K : PySem.W.Frag) (d : FD) (f : Addr) (fd : FuncData) : Prop := FunD K d.nm d.nm (defArgs d.st) (defBody d.st) (defScope d.st) [] [] f fd
def BindF (d : FD) : Prop := ∀ (kV doc pm : Value) (an : Option Addr) (cdv ct : Value) (us : List Value), us.length = d.ps.length → bindArgs (PySem.W.fnOf d.nm d.nm (defArgs d.st) (defBody d.st) (defScope d.st) .none kV doc pm an cdv ct) ⟨us, []⟩ = pure (d.ps.zip us)
structure Txt (DS : List FD) (free : List Str) (ns : Nat → Nat) (gs : Fns → Nat → GS) : Prop where
  sc : ∀ (i : Nat) (d : FD), DS[i]? = some d → FnScope d.N d.ps (defScope d.st) ∧ d.N.length = d.ps.length + ns i
  bd : ∀ (i : Nat) (d : FD), DS[i]? = some d → BindF d
  der : ∀ (i : Nat) (d : FD), DS[i]? = some d → ∀ (K : PySem.W.Frag) (F : Fns) (k : Nat) (X : Cx), Ctx K (DS.map FD.fi) free F k d.N (defScope d.st) (fun _ => true) X → PSs X (defBody d.st) (tDs X.K (gs F i))
theorem all_ok {P : Program} {w : World} {K : PySem.W.Frag} {mg : Str → Option Value} {base : Heap} {DS : List FD} {free : List Str} {ns : Nat → Nat} {gs : Fns → Nat → GS} (T : Txt DS free ns gs)
    (hf : ∀ (i : Nat) (d : FD), DS[i]? = some d → ∃ f fd, mg d.nm = some (.ref f) ∧ FnP K d f fd ∧ f = He.ga K d.nm) (hfree : ∀ x ∈ free, mg x = none) :
    ∀ (k i : Nat) (d : FD), DS[i]? = some d → ∀ f fd, FnP K d f fd → FnOk P w K mg base CX0 k f fd d.ps (spD K (FkOf ns gs k i) d.ps.length)
  | 0, _, _, _, _, _, _ => fn_zero
  | k + 1, i, d, h, f, fd, F => by
    refine fn_ok F (T.sc i d h).1 (T.sc i d h).2 fun X h1 h2 h3 h4 h5 h6 h7 h8 h9 h10 hr => ?_
    subst h1 h2 h3 h4 h5
    refine T.der i d h X.K _ k X ⟨rfl, h6, h7, (T.sc i d h).1.nd, h8, fun x _ => .inl (h9 x), by rw [h10]; exact PassesOwn.never, hr, hfree, fun j e hj => ?_⟩
    rw [List.getElem?_map] at hj
    cases q : DS[j]? with
    | none => rw [q] at hj; cases hj
    | some d2 =>
      rw [q] at hj
      cases hj
      obtain ⟨f2, fd2, g1, g2, g3⟩ := hf j d2 q
      exact ⟨f2, fd2, g1, g2.kp, FunD.bindsN g2 (T.bd j d2 q), all_ok T hf hfree k j d2 q f2 fd2 g2, g3⟩
theorem reps_ints {K : PySem.W.Frag} {w : Lg} {H : Hp} {b : Bool} : ∀ ns : List Int, Reps K w H b (ns.map V.int) (ns.map D.int)
  | [] => True.intro
  | _ :: ns => ⟨rfl, reps_ints ns⟩
def faOf (DS : List FD) (free : List Str) : List He.Fa := DS.map (fun d => .glo d.nm) ++ free.map .free
/-- what the end of the head asks -/
theorem law_facts {P : Program} {w : World} {h : Heap} {mg : Str → Option Value} {fa : Addr} {DS : List FD} {free : List Str} {ns : Nat → Nat} {gs : Fns → Nat → GS} (T : Txt DS free ns gs) {n k il : Nat} {dl : FD} {x : Str} (hl : DS[il]? = some dl) (hp : dl.ps = [x])
    (Y : ∃ K : PySem.W.Frag, K.In h ∧ He.SaysD (faOf DS free) (DS.map FD.dd) K) (G : h.Ns mainGlobals mg) (hmg : mg dl.nm = some (.ref fa))
    (pure_ : ∀ l : List Int, l.length ≤ n → ∃ ob, FkOf ns gs k il [.fl (l.map .int)] [] = .ok (.fz (.bl true)) ob) :
    ∃ (K : PySem.W.Frag) (fd : FuncData) (sp : Sp), K.In h ∧ (∀ (s : Shared) (u : Value), BindsTo s fd ⟨[u], []⟩ [(x, u)]) ∧
        (∀ (H : Hp) (a : Addr) (ns : List Int), ns.length ≤ n → Only H → SqL K H a (ns.map V.int) → sp [.ref a] H (fun v _ => v = .bl true) fun _ _ _ => False) ∧
        ∀ base : Heap, K.In base → base.Ns mainGlobals mg → FnOk P w K mg base CX0 k fa fd [x] sp := by
  obtain ⟨K, X, c⟩ := Y
  have hfree : ∀ x ∈ free, mg x = none := fun x hx => by
    have hm : He.Fa.free x ∈ faOf DS free := List.mem_append_right _ (List.mem_map_of_mem hx)
    obtain ⟨i, hi⟩ := List.mem_iff_getElem?.mp hm
    exact He.free_ok X G (c.fact i hi)
  have hf : ∀ (i : Nat) (d : FD), DS[i]? = some d → ∃ f fd, mg d.nm = some (.ref f) ∧ FnP K d f fd ∧ f = He.ga K d.nm := fun i d hi => by
    obtain ⟨fd, F⟩ := c.def_ i (d := d.dd) (by rw [List.getElem?_map, hi]; rfl)
    refine ⟨_, fd, ?_, F, rfl⟩
    have hm : He.Fa.glo d.nm ∈ faOf DS free := List.mem_append_left _ (List.mem_map_of_mem (f := fun d : FD => He.Fa.glo d.nm) (List.mem_of_getElem? hi))
    obtain ⟨j, hj⟩ := List.mem_iff_getElem?.mp hm
    exact He.glo_ok X G (c.fact j hj)
  obtain ⟨f, fd, g1, F, _⟩ := hf il dl hl
  have e := hmg.symm.trans g1
  cases e
  have b := FunD.bindsA (ps := dl.ps) F (T.bd il dl hl)
  refine ⟨K, fd, spD K (FkOf ns gs k il) 1, X, fun s v => ?_, fun H a ns' hlen hO hS => ?_, fun base _ _ => ?_⟩
  · have := b s [v] (by rw [hp]; rfl)
    rw [hp] at this
    exact this
  · obtain ⟨ob, e⟩ := pure_ ns' hlen
    refine ⟨⟨[], fun _ => False⟩, [.fl (ns'.map .int)], [], [], rfl, ⟨⟨a, ns'.map .int, rfl, ?_, reps_ints ns'⟩, True.intro⟩, rfl, List.nodup_nil, (fun _ q => nomatch q), fun _ (q : False) => q.elim, ?_⟩
    · rcases hS with (hS | ⟨o, hS⟩) | hS
      · rcases hO a with q | ⟨o, xs, q⟩
        · rw [q] at hS; cases hS
        · rw [q] at hS; cases hS
      · exact .inl ⟨o, hS⟩
      · exact .inr hS
    · rw [e]
      intro v H' w' F1 F2 l m keep h1 h2 nd fr zz
      exact h2.1
  · have := all_ok (P := P) (w := w) (base := base) T hf hfree k il dl hl fa fd F
    rw [hp] at this
    exact this
end PL
set_option Elab.async false
set_option linter.all false
set_option maxRecDepth 100000
set_option autoImplicit false
namespace PL
open PySem PySem.Spec PyProof.Rows L2
/-! ### a op b op c: what stands in the middle is data -/
def chn (p p' : S → RV → RV → R RV) (gc : G) (x y : RV) (s : S) : R RV := match y with
  | .tr (.fz _) => (p s x y).bind fun k s3 => (bv k s3).bind fun b s4 => if b then (gc s4).bind fun z s5 => p' s5 y z else .ok (.tr (.fz (.bl false))) s4
  | _ => .stuck
def gChain (p p' : S → RV → RV → R RV) (ga gb gc : G) : G := fun s => (ga s).bind fun x s1 => (gb s1).bind fun y s2 => chn p p' gc x y s2
section
variable {X : Cx} {ga gb gc : G} {a b c : Expr} {pos : Pos}
theorem tChain_of {r r' : R2} {p p' : S → RV → RV → R RV} (hS : OpS X.K r p) (hS' : OpS X.K r' p') {σ : L2.St} {H : Hp} {Q : VK} (h : tD X.K (gChain p p' ga gb gc) σ H Q) : tChain r r' (tD X.K ga) (tD X.K gb) (tD X.K gc) σ H Q := by
  obtain ⟨en, w, s, pend, rs, po⟩ := h
  obtain ⟨rx, s1, e1, po⟩ := Post.bind po
  obtain ⟨ry, s2, e2, po⟩ := Post.bind po
  refine tD.first rs e1 fun x H1 w1 r1 => tD.first r1 e2 fun y H2 w2 r2 => ?_
  unfold chn at po
  split at po
  · rename_i dy
    obtain ⟨k, s3, e3, po⟩ := Post.bind po
    have hy := r2.dat (v := y) (d := dy) (by simp)
    -- x, y and y once more
    have r3 : RS X.K en w2 s2 σ H2 (pend ++ [(y, .tr (.fz dy))] ++ [(x, rx)] ++ [(y, .tr (.fz dy))]) := by
      have q := r2.pushD hy
      obtain ⟨F1, F2, F3, h1, h2, h3, nd, fr⟩ := q.rep
      obtain ⟨A, G4, gA, g4, rfl⟩ := h3.split
      obtain ⟨B, G3, gB, g3, rfl⟩ := gA.split
      obtain ⟨G1, G2, g1, g2, rfl⟩ := gB.split
      obtain ⟨Gx, Gn, g2, gn, rfl⟩ := g2
      have gn : Gn = [] := gn
      subst gn
      obtain ⟨Gy, Gn, g3, gn, rfl⟩ := g3
      have gn : Gn = [] := gn
      subst gn
      obtain ⟨Gz, Gn, g4, gn, rfl⟩ := g4
      have gn : Gn = [] := gn
      subst gn
      have g3' : Rep X.K w2 H2 true y dy ∧ Gy = [] := g3
      have g4' : Rep X.K w2 H2 true y dy ∧ Gz = [] := g4
      obtain ⟨_, rfl⟩ := g3'
      obtain ⟨_, rfl⟩ := g4'
      refine ⟨⟨F1, F2, G1 ++ ([] ++ []) ++ (Gx ++ []) ++ ([] ++ []), h1, h2, ?_, by simpa using nd, by simpa using fr⟩, q.live, q.frame, q.mono, q.le, q.zz⟩
      refine RepVs.app (RepVs.app (RepVs.app g1 ?_) ?_) ?_
      · exact ⟨[], [], g3, rfl, rfl⟩
      · exact ⟨Gx, [], g2, rfl, rfl⟩
      · exact ⟨[], [], g4, rfl, rfl⟩
    refine hS en w2 s2 σ H2 (pend ++ [(y, .tr (.fz dy))]) x y rx (.tr (.fz dy)) _ r3 ?_
    rw [e3]
    intro v H3 w3 r4
    obtain ⟨b, s4, e4, po⟩ := Post.bind po
    unfold bv at e4
    split at e4
    · rename_i b'
      cases e4
      refine ⟨b, (r4.dat (v := v) (d := .bl b) (by simp)), ?_⟩
      cases b with
      | false => exact po _ H3 w3 (r4.drop2.pushD rfl)
      | true =>
        simp only [if_true] at po ⊢
        obtain ⟨rz, s5, e5, po⟩ := Post.bind po
        exact tD.first r4.drop e5 fun z H4 w4 r5 => hS' en w4 s5 σ H4 pend y z (.tr (.fz dy)) rz Q r5 po
    · cases e4
  · exact po.elim
theorem de_chain {op op' : CmpOp} {r r' : R2} {p p' : S → RV → RV → R RV} (ho : OpR X (compareOp op) r) (hS : OpS X.K r p) (ho' : OpR X (compareOp op') r') (hS' : OpS X.K r' p') (ha : PE X a (tD X.K ga)) (hb : PE X b (tD X.K gb)) (hc : PE X c (tD X.K gc))
    (hm : lastMarks [op, op'] [b, c] = false) : PE X (.Compare a [op, op'] [b, c] pos) (tD X.K (gChain p p' ga gb gc)) :=
  PE.imp (pe_chain ho ho' ha hb hc hm) fun _ _ _ h => tChain_of hS hS' h
theorem dt_chain {op op' : CmpOp} {r r' : R2} {p p' : S → RV → RV → R RV} (ho : OpR X (compareOp op) r) (hS : OpS X.K r p) (ho' : OpR X (compareOp op') r') (hS' : OpS X.K r' p') (ha : PE X a (tD X.K ga)) (hb : PE X b (tD X.K gb)) (hc : PE X c (tD X.K gc))
    (hm : lastMarks [op, op'] [b, c] = false) : PT X (.Compare a [op, op'] [b, c] pos) (tDt X.K (gB (gChain p p' ga gb gc))) :=
  PT.imp (pt_chain ho ho' ha hb hc hm) fun _ _ _ h => tTest_of (fun _ _ _ q => tChain_of hS hS' q) h
end
end PL
set_option Elab.async false
set_option linter.all false
set_option maxRecDepth 100000
set_option autoImplicit false
namespace PL
open PySem PySem.Spec PyProof.Rows PySem.SeqAt L2
/-! ### t[::-1] of a tuple -/
section
variable {prog : Program} {w : World} {A : Around} {E : Value → Shared → Prop} {s : Shared}
theorem adjust_rev (n : Nat) : Builtin.Slice.sliceAdjust none none (-1) (n : Int) = ((n : Int) - 1, -1) := by
  have h1 : ((-1 : Int) < 0) := by omega
  unfold Builtin.Slice.sliceAdjust
  simp only [h1, if_true]
theorem places_rev (n : Nat) : Builtin.Slice.slicePlaces ((n : Int) - 1) (-1) (-1) = n := by
  unfold Builtin.Slice.slicePlaces
  have h1 : ¬ ((-1 : Int) > 0) := by omega
  simp only [h1, if_false]
  by_cases h : n = 0
  · subst h; rfl
  · have h2 : (n : Int) - 1 > -1 := by omega
    simp only [h2, if_true]
    have e : -(-1 : Int) = 1 := rfl
    rw [e, Int.ediv_one]
    omega
theorem sliceApplied_rev {sl : Addr} {t : Tok} {n : Nat} {Q : Int × Int × Nat → Shared → Prop} (hs : s.heap.IsSliceOf sl .none .none (.int (-1) t))
    (h : Q ((n : Int) - 1, -1, n) s) : wpAny (model prog w) A (Builtin.Slice.sliceApplied (.ref sl) (pure (n : Int))) Q E s := by
  obtain ⟨os, hos, hcs, hds⟩ := id hs
  unfold Builtin.Slice.sliceApplied Builtin.Slice.sliceFields
  refine wpAny_bind (wpAny_bind (wpAny_field hos hds (x := .none) rfl (wpAny_bind (wpAny_field hos hds (x := .none) rfl (wpAny_bind (wpAny_field hos hds (x := .int (-1) t) rfl (wpAny_pure ?_)))))))
  refine wpAny_bind (slicePart_int ?_)
  show wpAny _ _ (if ((-1 : Int) == 0) = true then _ else _) _ _ s
  rw [if_neg (by decide)]
  refine wpAny_bind (slicePart_none (wpAny_bind (slicePart_none (wpAny_bind (wpAny_pure ?_)))))
  show wpAny _ _ (match Builtin.Slice.sliceAdjust none none (-1) (n : Int) with | (lo, hi) => pure (lo, (-1 : Int), Builtin.Slice.slicePlaces lo hi (-1))) _ _ s
  rw [adjust_rev n]
  show wpAny _ _ (pure ((n : Int) - 1, (-1 : Int), Builtin.Slice.slicePlaces ((n : Int) - 1) (-1) (-1))) _ _ s
  rw [places_rev]
  exact wpAny_pure h
theorem fm_range {α : Type} : ∀ (l : List α) (f : Nat → Option α), (∀ m, m < l.length → f m = l[m]?) → (List.range l.length).filterMap f = l
  | [], f, _ => rfl
  | x :: l, f, h => by
    rw [List.length_cons, List.range_succ_eq_map]
    have h0 : f 0 = some x := h 0 (by simp)
    rw [List.filterMap_cons, h0, List.filterMap_map]
    exact congrArg (x :: ·) (fm_range l (f ∘ Nat.succ) fun m hm => h (m + 1) (by simpa using hm))
theorem pick_rev (xs : Array Value) : ((List.range xs.size).filterMap fun (m : Nat) => xs[((xs.size : Int) - 1 + (m : Int) * (-1)).toNat]?).toArray = xs.toList.reverse.toArray := by
  congr 1
  have h := fm_range xs.toList.reverse (fun (m : Nat) => xs[((xs.size : Int) - 1 + (m : Int) * (-1)).toNat]?) fun m hm => by
    rw [List.length_reverse, Array.length_toList] at hm
    rw [List.getElem?_reverse (by simpa using hm)]
    have : ((xs.size : Int) - 1 + (m : Int) * (-1)).toNat = xs.size - 1 - m := by omega
    rw [this, Array.getElem?_toList, Array.length_toList]
  rw [List.length_reverse, Array.length_toList] at h
  exact h
theorem getItem_tuple_rev {t sl : Addr} {items : Array Value} {tk : Tok} {Q : Value → Shared → Prop} (ht : IsTup s.heap t items) (hs : s.heap.IsSliceOf sl .none .none (.int (-1) tk))
    (h : Q (.ref s.heap.objs.size) { s with heap := s.heap.push { cls := .type "tuple", data := .seq items.toList.reverse.toArray } })
    (hsz : items.size ≤ sizeLine) : wpAny (model prog w) A (getItem (.ref t) (.ref sl)) Q E s := by
  have htake : sizeOk (.seq items.toList.reverse.toArray) := by
    show items.toList.reverse.toArray.size ≤ sizeLine
    rw [List.size_toArray, List.length_reverse, Array.length_toList]
    omega
  obtain ⟨os, hos, hcs, hds⟩ := id hs
  have hTs : s.TypeIs (.ref sl) "slice" := ⟨os, hos, hcs⟩
  unfold getItem
  try with_reducible refine wpAny_holding ?_
  first | refine wpAny_bind (wpAny_pure ?_) | skip
  refine wpAny_bind (wpAny_sequenceKey ht.typeIs (by decide) ?_)
  refine wpAny_bind (wpAny_callSpecial?_slot (name := Str.ofString "__getitem__") ht.typeIs PyProof.Rows.slot_tuple_getitem
    (wpAny_call_entry PyProof.Rows.slot_tuple_getitem ht.typeIs entry_tuple_getitem ?_ (args_tuple_getitem _ _)))
  show wpAny _ _ (Builtin.Tuple.tupleItemsOf (.ref t) >>= _) _ _ s
  refine wpAny_bind (tupleItemsOf_ ht ?_)
  refine wpAny_bind (wpAny_typeOf hTs ?_)
  rw [if_pos (by decide)]
  refine wpAny_bind (sliceApplied_rev hs ?_)
  have hno : ¬ ((((items.size : Int) - 1) == 0 && (-1 : Int) == 1 && items.size == items.size) = true) := by
    intro q
    rw [Bool.and_eq_true, Bool.and_eq_true] at q
    exact absurd (eq_of_beq q.1.2) (by decide)
  show wpAny _ _ (if (((items.size : Int) - 1) == 0 && (-1 : Int) == 1 && items.size == items.size) = true then _ else _) _ _ s
  rw [if_neg hno, pick_rev]
  first
    | exact wpAny_bind (m := Builtin.Tuple.tupleExact _) (wpAny_newObj_type (wpAny_pure ⟨_, rfl, wpAny_pure h⟩) htake)
    | exact wpAny_bind (m := Builtin.Tuple.tupleExact _) (wpAny_newObj_type (wpAny_bind (wpAny_pure (wpAny_pure ⟨_, rfl, wpAny_pure h⟩))) htake)
    | exact wpAny_bind (wpAny_bind (m := Builtin.Tuple.tupleExact _) (wpAny_newObj_type (wpAny_pure (wpAny_pure ⟨_, rfl, wpAny_pure h⟩)) htake))
    | exact wpAny_bind (wpAny_bind (m := Builtin.Tuple.tupleExact _) (wpAny_newObj_type (wpAny_pure ⟨_, rfl, wpAny_pure h⟩) htake))
end
def tRevT (K : PySem.W.Frag) (te : TE) : TE := fun σ H Q => te σ H fun x H1 => ∃ a xs, x = .ref a ∧ SqT K H1 a xs ∧ ∀ p, H1 p = none → Q (.ref p) (upd H1 p (.tup xs.reverse))
section
variable {X : Cx} {ga : G}
theorem pe_revT {e : Expr} {te : TE} {k : Nat} {p1 p2 p3 pos : Pos} (he : PE X e te) : PE X (.Subscript e (.Slice none none (some (.UnaryOp .USub (.Constant (.int 1) k p1) p2)) p3) pos) (tRevT X.K te) := by
  refine ⟨fun pins s σ H Q I h => ?_⟩
  refine Subscript_ (thn (he.run pins s σ H _ I h) fun v s1 ⟨x, H1, I1, r1, q1⟩ => ?_)
  obtain ⟨a, xs, ex, hx, q⟩ := q1
  subst ex
  cases r1
  have hst : PO X (some (.UnaryOp .USub (.Constant (.int 1) k p1) p2)) (tPart (tUn (rU fun i => .int (-i)) (tC (.int 1)))) := po_some (pe_un un_neg pe_int)
  refine wpAny_Slice (thn (po_none.run pins s1 σ H1 (fun o H2 => o = none ∧ H2 = H1) I1 ⟨rfl, rfl⟩) fun vl s2 ⟨l, H2, I2, pl, el, e2⟩ => ?_)
  subst el e2
  refine thn (po_none.run pins s2 σ H2 (fun o H3 => o = none ∧ H3 = H2) I2 ⟨rfl, rfl⟩) fun vu s3 ⟨u, H3, I3, pu, eu, e3⟩ => ?_
  subst eu e3
  refine thn (hst.run pins s3 σ H3 (fun o H4 => o = some (-1) ∧ H4 = H3) I3 ⟨1, rfl, -1, rfl, rfl, rfl⟩) fun vs s4 ⟨o, H4, I4, ps, eo, e4⟩ => ?_
  subst eo e4
  cases pl
  cases pu
  cases ps with
  | int _ tk =>
    have I5 : Inv X pins σ H4 { s4 with heap := s4.heap.push { cls := .type "slice", data := .fields #[.none, .none, .int (-1) tk] } } := I4.kept (t' := s4.toks) fun b ob q => Heap.get?_push_of_some _ q
    obtain ⟨its, r, ht, hz⟩ := I5.tuple hx
    have hlen := r.length
    show wpAny (model X.prog X.w) X.A (subscriptTail e (.Slice none none (some (.UnaryOp .USub (.Constant (.int 1) k p1) p2)) p3) (.ref a) (.ref s4.heap.objs.size)) (EP X pins σ Q) X.xe { s4 with heap := s4.heap.push { cls := .type "slice", data := .fields #[.none, .none, .int (-1) tk] } }
    refine tail_any (ops := [.ref a, .ref s4.heap.objs.size]) ht.typeIs (PyProof.Rows.slot_tuple_getitem.lookup) ?_ (by with_unfolding_all rfl)
    refine getItem_tuple_rev ht (Heap.IsSliceOf.new _ .none .none (.int (-1) tk)) ?_ (by rw [List.size_toArray]; omega)
    refine ⟨.ref _, _, I5.laid (t' := s4.toks) (o := .tup xs.reverse) (fun b ob q => Heap.get?_push_of_some _ q) (Nat.le_refl _) ?_, rfl, q _ (I5.hok.fresh (Nat.le_refl _))⟩
    exact ⟨by rw [List.length_reverse]; exact hz, _, r.reverse, IsTup.new _ _⟩
def revv (s : S) (x : RV) : R RV := match dat s x with
  | some (.tup ds) => .ok (.tr (.fz (.tup ds.reverse))) s
  | _ => match lsd s x with
    | some ds => .ok (.tr (.lst (ds.reverse.map .fz))) s
    | none => .stuck
def gRev (ga : G) : G := fun s => (ga s).bind fun x s1 => revv s1 x
theorem Reps.rev {K : PySem.W.Frag} {w : Lg} {H : Hp} {b : Bool} : ∀ {vs : List V} {ds : List D}, Reps K w H b vs ds → Reps K w H b vs.reverse ds.reverse
  | [], [], _ => True.intro
  | v :: vs, d :: ds, h => by
    rw [List.reverse_cons, List.reverse_cons]
    exact Reps.app (Reps.rev h.2) ⟨h.1, True.intro⟩
  | [], _ :: _, h => h.elim
  | _ :: _, [], h => h.elim
theorem de_rev {e : Expr} {k : Nat} {p1 p2 p3 pos : Pos} (ha : PE X e (tD X.K ga)) : PE X (.Subscript e (.Slice none none (some (.UnaryOp .USub (.Constant (.int 1) k p1) p2)) p3) pos) (tD X.K (gRev ga)) := by
  refine ⟨fun pins s σ H Q I h => ?_⟩
  obtain ⟨en, w, s0, pend, rs, po⟩ := h
  obtain ⟨rx, s1, e1, po⟩ := Post.bind po
  unfold revv at po
  split at po
  · rename_i ds e2
    refine (pe_revT ha).run pins s σ H Q I (tD.first rs e1 fun x H1 w1 r1 => ?_)
    obtain ⟨a, xs, rfl, h1, h2⟩ := r1.dat_ (v := x) (rv := rx) (by simp) e2
    refine ⟨a, xs, rfl, h1, fun p n => po _ _ w1 (r1.drop.newData n ⟨p, xs.reverse, rfl, SqT.of upd_same, ?_⟩)⟩
    have m : Mono w1 H1 (upd H1 p (.tup xs.reverse)) := Mono.new n fun z => by
      obtain ⟨q, e⟩ := (r1.zz p z).1
      rw [n] at e; cases e
    exact (h2.mono m (Lg.le_refl w1)).rev
  · split at po
    · rename_i ds e2
      refine (pe_revL ha).run pins s σ H Q I (tD.first rs e1 fun x H1 w1 r1 => ?_)
      obtain ⟨a, xs, rfl, h1, h2⟩ := r1.lsd_ (v := x) (rv := rx) (by simp) e2
      exact ⟨a, xs, rfl, .inl (.inl h1), fun p n => po _ _ w1 (r1.drop.newList n h2.rev)⟩
    · exact po.elim
end
end PL
set_option Elab.async false
set_option linter.all false
set_option maxRecDepth 100000
set_option autoImplicit false
namespace PL
open PySem PySem.Spec PyProof.Rows L2
/-! ### a def by a variable -/
def lenIs (n : Nat) (gs : GA) : GA := fun s => (gs s).bind fun rvs s1 => if rvs.length = n then .ok rvs s1 else .stuck
theorem lenIs_len (n : Nat) (gs : GA) : ∀ (s : S) rvs s1, lenIs n gs s = .ok rvs s1 → rvs.length = n := fun s rvs s1 e => by
  unfold lenIs at e
  cases q : gs s with
  | exc x s => rw [q] at e; cases e
  | stuck => rw [q] at e; cases e
  | ok r s2 =>
    rw [q] at e
    simp only [R.bind_ok] at e
    split at e
    · rename_i h; cases e; exact h
    · cases e
theorem lenIs_imp {K : PySem.W.Frag} {n : Nat} {gs : GA} {σ : L2.St} {H : Hp} {Q : List V → Hp → Prop} (h : tDa K (lenIs n gs) σ H Q) : tDa K gs σ H Q := by
  obtain ⟨en, w, s, pend, r, po⟩ := h
  refine ⟨en, w, s, pend, r, ?_⟩
  unfold lenIs at po
  cases q : gs s with
  | exc x s => rw [q] at po; exact po.elim
  | stuck => rw [q] at po; exact po.elim
  | ok r s2 =>
    rw [q] at po
    simp only [R.bind_ok] at po
    split at po
    · exact po
    · exact po.elim
def fnIx (I : List FI) (x : Str) : Option (Nat × Nat) := match I.findIdx? fun d => decide (d.name = x) with
  | some j => match I[j]? with
    | some d => some (j, d.ps.length)
    | none => none
  | none => none
def gCallV (i : Nat) (I : List FI) (F : Fns) (gs : GA) : G := fun s => match s.sl[i]? with
  | some (.fz (.fn x)) => match fnIx I x with
    | some (j, n) => gCall (F j) (lenIs n gs) s
    | none => .stuck
  | _ => .stuck
section
variable {K : PySem.W.Frag} {I : List FI} {free : List Str} {F : Fns} {k : Nat} {N : List Str} {sc : Scope} {st : Str → Bool} {X : Cx}
theorem cFnV (c : Ctx K I free F k N sc st X) (j : Nat) {x : Str} {ps : List Str} {pos : Pos} (hi : I[j]? = some ⟨x, ps⟩) (hg : sc.names.lookup x = some .globalImplicit) (hdb : (x == ("__debug__" : Str)) = false) : PE X (.Name x pos) (tD X.K (gC (.fn x))) := by
  obtain ⟨f, fd, h1, h2, h3, h4, h5⟩ := c.fns j ⟨x, ps⟩ hi
  refine PE.imp (pe_glob (v := .ref f) (cGl c hg) h1 rfl hdb) fun σ H Q ⟨en, w, s, pend, r, po⟩ => ?_
  exact po _ H w (r.pushD (v := .ref f) (d := .fn x) (by rw [h5]; rfl))
theorem cCallV (c : Ctx K I free F k N sc st X) (i : Nat) {x : Str} {e : Expr} {es : List Expr} {gs : GA} {p pos : Pos} (hN : N[i]? = some x) (hv : Vz sc x = true) (hdb : (x == ("__debug__" : Str)) = false) (hcd : (x == ("__classdict__" : Str)) = false) (ha : PA X (e :: es) (tDa X.K gs))
    (he : starEach (e :: es) X.env = (false, eval e X.env) :: starEach es X.env) (hpl : (backTo pos (starEach es X.env)).any (·.1) = false) :
    PE X (.Call (.Name x p) (e :: es) [] pos) (tD X.K (gCallV i I F gs)) := by
  refine ⟨fun pins s σ H Q Iv h => ?_⟩
  obtain ⟨en, w, s0, pend, rs, po⟩ := h
  unfold gCallV at po
  split at po
  · rename_i y hs
    split at po
    · rename_i j n hf
      unfold fnIx at hf
      split at hf
      · rename_i j' hj
        split at hf
        · rename_i d hd
          cases hf
          have hy : d.name = y := by
            have := List.findIdx?_eq_some_iff_getElem.mp hj
            obtain ⟨hlt, hp, _⟩ := this
            rw [List.getElem?_eq_getElem hlt] at hd
            cases hd
            exact of_decide_eq_true hp
          obtain ⟨f, fd, h1, h2, h3, h4, h5⟩ := c.fns j d hd
          have q := call_of (E := E0) (lenIs_len d.ps.length gs) ⟨en, w, s0, pend, rs, po⟩
          refine (ItX.pe_callV (i := i) (E := E0) (FnOk.raw (dvs := []) (ds := []) h4 h3 .nil) c.room h2 pass0 (by rw [c.N_]; exact hN) (cVis c (Vz_ok hv)) ha hdb hcd he hpl).run pins s σ H Q Iv ⟨?_, ?_⟩
          · obtain ⟨v, hσ⟩ := rs.live i _ hs (fun q => nomatch q)
            obtain ⟨F1, F2, F3, g1, g2, g3, nd, fr⟩ := rs.rep
            obtain ⟨u, A1, A2, A3, ev, hT, _⟩ := RepTs.at g1 hs
            have hv : u = v := by
              unfold svs at ev
              rw [List.getElem?_map, hσ] at ev
              cases ev; rfl
            have hT1 : Rep X.K w H true u (.fn y) := hT.1
            have e1 : u = .ref (He.ga X.K y) := hT1
            rw [hσ, ← hv, e1, h5, hy]
          · exact lenIs_imp q
        · cases hf
      · cases hf
    · exact po.elim
  · exact po.elim
end
/-! ### d.get(k, v) -/
def dget (x y : RV) (z : RV) (s : S) : R RV := match dctAt s x with
  | some (ks, ts) => match (dat s y).bind keyD with
    | some k => match keyIx ks k with
      | some j => match ts[j]? with
        | some (.fz d) => .ok (.tr (.fz d)) s
        | _ => .stuck
      | none => .ok z s
    | none => .stuck
  | none => .stuck
def gDGet2 (gd gk gx : G) : G := fun s => (gd s).bind fun x s1 => match dctAt s1 x with
  | some _ => (gk s1).bind fun y s2 => (gx s2).bind fun z s3 => dget x y z s3
  | none => .stuck
def gDGet1 (gd gk : G) : G := fun s => (gd s).bind fun x s1 => match dctAt s1 x with
  | some _ => (gk s1).bind fun y s2 => dget x y (.tr (.fz .non)) s2
  | none => .stuck
section
variable {X : Cx} {gd gk gx : G}
theorem RS.dget0 {K : PySem.W.Frag} {en : En} {w : Lg} {s : S} {σ : L2.St} {H : Hp} {pend : List (V × RV)} (r : RS K en w s σ H pend) {x y : V} {rx ry : RV} {ks : List Key} {ts : List T} {k : Key} (hx : (x, rx) ∈ pend) (hy : (y, ry) ∈ pend) (e1 : dctAt s rx = some (ks, ts)) (e2 : (PL.dat s ry).bind keyD = some k) (e3 : keyIx ks k = none) :
    ∃ a, x = .ref a ∧ DGet H a y none := by
  obtain ⟨a, vs, F, rfl, hl, nd, ha, hr⟩ := r.dct hx e1
  cases e5 : PL.dat s ry with
  | none => rw [e5] at e2; cases e2
  | some dk =>
    rw [e5] at e2
    have ey := keyV (r.dat_ hy e5) e2
    subst ey
    exact ⟨a, rfl, by rw [← valV_zipN hl e3]; exact DGet.k ha⟩
theorem RS.isD {K : PySem.W.Frag} {en : En} {w : Lg} {s : S} {σ : L2.St} {H : Hp} {pend : List (V × RV)} (r : RS K en w s σ H pend) {x : V} {rx : RV} {q : List Key × List T} (hx : (x, rx) ∈ pend) (e1 : dctAt s rx = some q) : ∃ a, x = .ref a ∧ IsD H a := by
  obtain ⟨ks, ts⟩ := q
  obtain ⟨a, vs, F, rfl, hl, nd, ha, hr⟩ := r.dct hx e1
  exact ⟨a, rfl, .inl ⟨_, .inl ha⟩⟩
theorem dget2_of {σ : L2.St} {H : Hp} {Q : VK} (h : tD X.K (gDGet2 gd gk gx) σ H Q) : tDGet2 (tD X.K gd) (tD X.K gk) (tD X.K gx) σ H Q := by
  obtain ⟨en, w, s, pend, rs, po⟩ := h
  obtain ⟨rx, s1, e1, po⟩ := Post.bind po
  refine tD.first rs e1 fun x H1 w1 r1 => ?_
  split at po
  case h_2 => exact po.elim
  rename_i q0 q
  obtain ⟨a, rfl, hd⟩ := r1.isD (x := x) (rx := rx) (by simp) q
  obtain ⟨ry, s2, e2, po⟩ := Post.bind po
  obtain ⟨rz, s3, e3, po⟩ := Post.bind po
  refine ⟨a, rfl, hd, tD.first r1 e2 fun y H2 w2 r2 => tD.first r2 e3 fun z H3 w3 r3 => ?_⟩
  unfold dget at po
  split at po
  case h_2 => exact po.elim
  rename_i ks ts q1
  split at po
  case h_2 => exact po.elim
  rename_i k q2
  split at po
  · rename_i j q3
    split at po
    case h_2 => exact po.elim
    rename_i d q4
    obtain ⟨b, v, ex, g, hv, _⟩ := r3.dval (x := .ref a) (y := y) (rx := rx) (ry := ry) (by simp) (by simp) q1 q2 q3 q4
    cases ex
    exact ⟨some v, g, po v H3 w3 (r3.drop.drop2.pushD hv)⟩
  · rename_i q3
    obtain ⟨b, ex, g⟩ := r3.dget0 (x := .ref a) (y := y) (rx := rx) (ry := ry) (by simp) (by simp) q1 q2 q3
    cases ex
    refine ⟨none, g, po z H3 w3 ?_⟩
    have r4 : RS X.K en w3 s3 σ H3 (pend ++ [(V.ref a, rx), (y, ry)] ++ [(z, rz)]) := by simpa using r3
    exact r4.dropMid
theorem dget1_of {σ : L2.St} {H : Hp} {Q : VK} (h : tD X.K (gDGet1 gd gk) σ H Q) : tDGet1 (tD X.K gd) (tD X.K gk) σ H Q := by
  obtain ⟨en, w, s, pend, rs, po⟩ := h
  obtain ⟨rx, s1, e1, po⟩ := Post.bind po
  refine tD.first rs e1 fun x H1 w1 r1 => ?_
  split at po
  case h_2 => exact po.elim
  rename_i q0 q
  obtain ⟨a, rfl, hd⟩ := r1.isD (x := x) (rx := rx) (by simp) q
  obtain ⟨ry, s2, e2, po⟩ := Post.bind po
  refine ⟨a, rfl, hd, tD.first r1 e2 fun y H2 w2 r2 => ?_⟩
  unfold dget at po
  split at po
  case h_2 => exact po.elim
  rename_i ks ts q1
  split at po
  case h_2 => exact po.elim
  rename_i k q2
  split at po
  · rename_i j q3
    split at po
    case h_2 => exact po.elim
    rename_i d q4
    obtain ⟨b, v, ex, g, hv, _⟩ := r2.dval (x := .ref a) (y := y) (rx := rx) (ry := ry) (by simp) (by simp) q1 q2 q3 q4
    cases ex
    exact ⟨some v, g, po v H2 w2 (r2.drop2.pushD hv)⟩
  · rename_i q3
    obtain ⟨b, ex, g⟩ := r2.dget0 (x := .ref a) (y := y) (rx := rx) (ry := ry) (by simp) (by simp) q1 q2 q3
    cases ex
    exact ⟨none, g, po .non H2 w2 (r2.drop2.pushD rfl)⟩
theorem de_get2 {o e f : Expr} {apos cpos : Pos} (hu : X.A.units + 1 < cLine) (ho : PE X o (tD X.K gd)) (he : PE X e (tD X.K gk)) (hf : PE X f (tD X.K gx)) (m : M2 X o "get" apos e f cpos) : PE X (.Call (.Attribute o "get" apos) [e, f] [] cpos) (tD X.K (gDGet2 gd gk gx)) :=
  PE.imp (pe_dget2 hu ho he hf m) fun _ _ _ h => dget2_of h
theorem de_get1 {o e : Expr} {apos cpos : Pos} (hu : X.A.units + 1 < cLine) (ho : PE X o (tD X.K gd)) (he : PE X e (tD X.K gk)) (m : M1 X o "get" apos e cpos) : PE X (.Call (.Attribute o "get" apos) [e] [] cpos) (tD X.K (gDGet1 gd gk)) :=
  PE.imp (pe_dget1 hu ho he m) fun _ _ _ h => dget1_of h
end
end PL
set_option Elab.async false
set_option linter.all false
set_option maxRecDepth 100000
set_option autoImplicit false
namespace PL
open PySem PySem.Spec PyProof.Rows L2
theorem sz_0 : 0 ≤ sizeLine := by decide
theorem sz_1 : 1 ≤ sizeLine := by decide
theorem sz_2 : 2 ≤ sizeLine := by decide
theorem sz_3 : 3 ≤ sizeLine := by decide
theorem sz_4 : 4 ≤ sizeLine := by decide
theorem sz_5 : 5 ≤ sizeLine := by decide
theorem sz_6 : 6 ≤ sizeLine := by decide
theorem sz_7 : 7 ≤ sizeLine := by decide
theorem sz_8 : 8 ≤ sizeLine := by decide
theorem sz_9 : 9 ≤ sizeLine := by decide
theorem sz_10 : 10 ≤ sizeLine := by decide
theorem sz_11 : 11 ≤ sizeLine := by decide
theorem sz_12 : 12 ≤ sizeLine := by decide
theorem sz_13 : 13 ≤ sizeLine := by decide
theorem sz_14 : 14 ≤ sizeLine := by decide
theorem sz_15 : 15 ≤ sizeLine := by decide
theorem atI_at {α : Type} {l : List α} {i : Nat} (h : i < l.length) : atI l (i : Int) = some l[i] := by
  unfold atI ixN
  simp [h]
theorem atI_c0 {α : Type} (x : α) (xs : List α) : atI (x :: xs) 0 = some x := atI_at (l := x :: xs) (i := 0) (by simp)
theorem atI_c1 {α : Type} (x y : α) (xs : List α) : atI (x :: y :: xs) 1 = some y := atI_at (l := x :: y :: xs) (i := 1) (by simp)
theorem atI_c2 {α : Type} (x y z : α) (xs : List α) : atI (x :: y :: z :: xs) 2 = some z := atI_at (l := x :: y :: z :: xs) (i := 2) (by simp)
theorem atI_nil {α : Type} (i : Int) : atI ([] : List α) i = none := by
  unfold atI
  cases ixN ([] : List α).length i <;> simp
def fin : O → Rf
  | .next s => .ok (.fz .non) s.ob
  | .ret t s => .ok t s.ob
  | .exc x s => .exc x s.ob
  | _ => .stuck
theorem fnD_fin (k : Nat) (body : GS) (ds : List D) (ob : List T) : fnD k body ds ob = fin (body ⟨ds.map T.fz ++ List.replicate k .hole, ob⟩) := by
  unfold fnD
  cases body ⟨ds.map T.fz ++ List.replicate k .hole, ob⟩ <;> rfl
theorem tyN_non : tyN (.fz .non) = some "NoneType" := rfl
theorem tyN_bl (b : Bool) : tyN (.fz (.bl b)) = some "bool" := rfl
theorem tyN_int (i : Int) : tyN (.fz (.int i)) = some "int" := rfl
theorem tyN_str (x : Str) : tyN (.fz (.str x)) = some "str" := rfl
theorem tyN_tup (ds : List D) : tyN (.fz (.tup ds)) = some "tuple" := rfl
theorem tyN_lst (ds : List D) : tyN (.fz (.lst ds)) = some "list" := rfl
theorem tyN_tl (ts : List T) : tyN (.lst ts) = some "list" := rfl
theorem ables_map (ds : List D) : T.ables (ds.map T.fz) = true := by
  induction ds with
  | nil => rfl
  | cons d ds ih => simp [T.ables, T.able, ih]
theorem views_map' (ds : List D) : T.views (ds.map T.fz) = ds := by
  rw [T.views_map, List.map_map]
  exact List.map_id'' (fun _ => rfl) ds
theorem ables_nil : T.ables [] = true := rfl
theorem views_nil : T.views [] = [] := rfl
theorem ables_cons (t : T) (ts : List T) : T.ables (t :: ts) = (t.able && T.ables ts) := rfl
theorem views_cons (t : T) (ts : List T) : T.views (t :: ts) = t.view :: T.views ts := rfl
end PL
set_option Elab.async false
set_option linter.all false
set_option maxRecDepth 100000
set_option autoImplicit false
namespace PL
open PySem PySem.Spec PyProof.Rows L2
/-! ### plain rules -/
theorem forGo_ix {tg : GG} {body : GS} {ds : List D} (P : Nat → S → Prop) (h : ∀ n d s, ds[n]? = some d → P n s → ∃ s1 s2, tg d s = some s1 ∧ body s1 = .next s2 ∧ P (n + 1) s2) :
    ∀ s, P 0 s → ∃ s', forGo tg body ds s = .next s' ∧ P ds.length s' := by
  have H : ∀ (suf pre : List D) (s : S), ds = pre ++ suf → P pre.length s → ∃ s', forGo tg body suf s = .next s' ∧ P ds.length s' := by
    intro suf
    induction suf with
    | nil => exact fun pre s e p => ⟨s, rfl, by rw [e, List.append_nil]; exact p⟩
    | cons d suf ih =>
      intro pre s e p
      obtain ⟨s1, s2, e1, e2, p2⟩ := h pre.length d s (by rw [e, List.getElem?_append_right (Nat.le_refl _)]; simp) p
      obtain ⟨s', e3, p3⟩ := ih (pre ++ [d]) s2 (by rw [e]; simp) (by rw [List.length_append]; exact p2)
      exact ⟨s', by rw [forGo, e1]; simp only; rw [e2]; exact e3, p3⟩
  exact fun s p => H ds [] s rfl p
theorem rgGet {lo : Int} {n i : Nat} {d : D} (h : (rangeD lo n)[i]? = some d) : i < n ∧ d = .int (lo + i) := by
  unfold rangeD at h
  rw [List.getElem?_map] at h
  by_cases hi : i < n
  · rw [List.getElem?_range hi] at h
    cases h
    exact ⟨hi, rfl⟩
  · rw [List.getElem?_eq_none (by simpa using hi)] at h
    cases h
theorem rangeD_len (lo : Int) (n : Nat) : (rangeD lo n).length = n := by simp [rangeD]
theorem pow18 : ((10 : Int) ^ (18 : Int).toNat) = 1000000000000000000 := by decide
theorem log2_small {i : Int} {n : Nat} (h : i.natAbs < 2 ^ n) : i.natAbs.log2 ≤ n := by
  rcases Nat.eq_zero_or_pos i.natAbs with e | e
  · rw [e]; exact Nat.zero_le _
  · exact Nat.le_of_lt ((Nat.log2_lt (by omega)).mpr h)
theorem cMul_ok {i j : Int} (h1 : i.natAbs < 2 ^ 64) (h2 : j.natAbs < 2 ^ 64) : cMul i j = true :=
  decide_eq_true (by have := log2_small h1; have := log2_small h2; omega)
/-! ### the draws -/
def drS (l : List Int) (many : Int) (dr : List Int) (mx : Int) (x y z u : T) (ob : List T) : S :=
  ⟨[.fz (.fl (l.map .int)), .fz (.int many), .lst (dr.map fun i => .fz (.int i)), .fz (.int mx), x, y, z, u], ob⟩
theorem app_int (dr : List Int) (i : Int) : (dr.map fun i => T.fz (.int i)) ++ [.fz (.int i)] = (dr ++ [i]).map fun i => T.fz (.int i) := by simp
theorem mod_small (i : Int) {m : Int} (h : 0 < m) (h2 : m < 2 ^ 64) : (i % m).natAbs < 2 ^ 64 := by
  have := Int.emod_nonneg i (show m ≠ 0 by omega)
  have := Int.emod_lt_of_pos i h
  omega
def m_dr1 : GS := (sSeq (sIf (gB (gOp pGtI (gVar 6) (gC (.int 0)))) (sSeq (sAppend 2 (gOp pMod (gCB bInt (aCons (gVar 6) aNil)) (gC (.int 997))))
  (sAsg 6 (gOp pDiv (gVar 6) (gC (.int 997))))) sNext)
  (sForget [7] sNext))
theorem dr_in (l : List Int) (many : Int) (mx : Int) (x y : T) (ob : List T) (dr : List Int) (z : Int) (hd : dr.length + 60 < 100000) :
    ∃ (dr' : List Int) (z' : Int), dr'.length ≤ dr.length + 60 ∧ forGo (tgName 7) m_dr1 (rangeD 0 60) (drS l many dr mx x y (.fz (.int z)) .hole ob) = .next (drS l many dr' mx x y (.fz (.int z')) .hole ob) := by
  have H := forGo_ix (tg := tgName 7) (body := m_dr1) (ds := rangeD 0 60) (fun n s => ∃ dr' z', dr'.length ≤ dr.length + n ∧ s = drS l many dr' mx x y (.fz (.int z')) .hole ob) (fun n d s hm h => by
    obtain ⟨hi, rfl⟩ := rgGet hm
    obtain ⟨dr', z', hl, rfl⟩ := h
    by_cases hz : 0 < z'
    · have h1 : dr'.length < sizeLine := by show _ < 16777216; omega
      have h2 : cDiv z' 997 = true := decide_eq_true ⟨by decide, by decide⟩
      refine ⟨_, _, rfl, ?_, dr' ++ [z' % 997], z' / 997, ?_, rfl⟩
      · simp [drS, m_dr1, sSeq, sIf, sAsg, sAsgT, sAug, sPar, sFor, sForget, sRet, sRetN, sAppend, sExtend, sNext, sBrk, sCont, sDrop, appv, isLst, gB, bv, gNp, npv, gOp, gUn, gVar, gC, gCB, gFz, fzv, gTru, tru, gAndT, gOrT, gNotT, gAnd, gOr, gNot, gIf, PL.gTup, gLst, gIsi, gIsi2, tyN_non, tyN_bl, tyN_int, tyN_str, tyN_tup, tyN_lst, tyN_tl, gSl, oNone, oSome, intv, aNil, aCons, iRange1, iRange2, rng1, rng2, iOf, itv, bLen, bAbs, bInt, bTuple, bList, lenT, pI, pAdd, pIx4, pIx, pDGet, dctAt, dat, look, tgName, forgets, retv, gCall, T.able, T.view, List.getElem?_cons_zero, List.getElem?_cons_succ, List.set_cons_zero, List.set_cons_succ, R.bind_ok, R.bindO_ok, List.length_cons, List.length_nil, dats, trees, lsd, fin, ables_map, views_map', ables_nil, views_nil, ables_cons, views_cons, filter_true', atI_c0, atI_c1, atI_c2, atI_nil, sz_0, sz_1, sz_2, sz_3, sz_4, sz_5, sz_6, sz_7, sz_8, sz_9, sz_10, sz_11, sz_12, sz_13, sz_14, sz_15, hz, h1, h2]
      · simp; omega
    · refine ⟨_, _, rfl, ?_, dr', z', by omega, rfl⟩
      simp [drS, m_dr1, sSeq, sIf, sAsg, sAsgT, sAug, sPar, sFor, sForget, sRet, sRetN, sAppend, sExtend, sNext, sBrk, sCont, sDrop, appv, isLst, gB, bv, gNp, npv, gOp, gUn, gVar, gC, gCB, gFz, fzv, gTru, tru, gAndT, gOrT, gNotT, gAnd, gOr, gNot, gIf, PL.gTup, gLst, gIsi, gIsi2, tyN_non, tyN_bl, tyN_int, tyN_str, tyN_tup, tyN_lst, tyN_tl, gSl, oNone, oSome, intv, aNil, aCons, iRange1, iRange2, rng1, rng2, iOf, itv, bLen, bAbs, bInt, bTuple, bList, lenT, pI, pAdd, pIx4, pIx, pDGet, dctAt, dat, look, tgName, forgets, retv, gCall, T.able, T.view, List.getElem?_cons_zero, List.getElem?_cons_succ, List.set_cons_zero, List.set_cons_succ, R.bind_ok, R.bindO_ok, List.length_cons, List.length_nil, dats, trees, lsd, fin, ables_map, views_map', ables_nil, views_nil, ables_cons, views_cons, filter_true', atI_c0, atI_c1, atI_c2, atI_nil, sz_0, sz_1, sz_2, sz_3, sz_4, sz_5, sz_6, sz_7, sz_8, sz_9, sz_10, sz_11, sz_12, sz_13, sz_14, sz_15, hz]) (drS l many dr mx x y (.fz (.int z)) .hole ob) ⟨dr, z, by omega, rfl⟩
  obtain ⟨s', e, dr', z', h1, rfl⟩ := H
  rw [rangeD_len] at h1
  exact ⟨dr', z', by omega, e⟩
def m_dr2 : GS := (sSeq (sAsg 5 (gCB bAbs (aCons (gCB bInt (aCons (gOp pIx4 (gVar 0) (gVar 4)) aNil)) aNil)))
  (sSeq (sAsg 3 (gOp pMod (gCB bInt (aCons (gOp pAdd (gOp pAdd (gOp pMulI (gVar 3) (gC (.int 48271))) (gOp pMod (gVar 5) (gC (.int 1000003)))) (gVar 4)) aNil)) (gC (.int 65537))))
  (sSeq (sAsg 6 (gC (.int 0)))
  (sSeq (sIf (gB (gOp pGeI (gVar 5) (gOp pPow (gC (.int 10)) (gC (.int 18))))) (sAsg 6 (gVar 5)) (sSeq (sAppend 2 (gOp pMod (gCB bInt (aCons (gVar 5) aNil)) (gC (.int 997))))
  (sAppend 2 (gOp pMod (gOp pMod (gCB bInt (aCons (gOp pAdd (gOp pMulI (gVar 3) (gC (.int 69621))) (gC (.int 5))) aNil)) (gC (.int 65521))) (gC (.int 997))))))
  (sSeq (sFor (iRange1 (aCons (gC (.int 60)) aNil)) (tgName 7) m_dr1)
  (sForget [4, 5, 6, 7] sNext))))))
theorem dr_mid (l : List Int) (many : Int) (ob : List T) (hl : l.length ≤ 63) :
    ∃ (dr' : List Int) (mx' : Int), dr'.length ≤ 62 * l.length ∧ mx'.natAbs < 2 ^ 64 ∧ forGo (tgName 4) m_dr2 (rangeD 0 l.length) (drS l many [] 7 .hole .hole .hole .hole ob) = .next (drS l many dr' mx' .hole .hole .hole .hole ob) := by
  have H := forGo_ix (tg := tgName 4) (body := m_dr2) (ds := rangeD 0 l.length) (fun n s => ∃ (dr' : List Int) (mx' : Int), dr'.length ≤ 62 * n ∧ mx'.natAbs < 2 ^ 64 ∧ s = drS l many dr' mx' .hole .hole .hole .hole ob) (fun n d s hm h => by
    obtain ⟨hi, rfl⟩ := rgGet hm
    obtain ⟨dr', mx, hd, hmx, rfl⟩ := h
    have h1 : dr'.length < sizeLine := by show _ < 16777216; omega
    have h1' : dr'.length + 1 < sizeLine := by show _ < 16777216; omega
    have h2 : cMul mx 48271 = true := cMul_ok hmx (by decide)
    have h3 : cPow 10 18 = true := by decide
    have h4 : atI (l.map D.int) (n : Int) = some (.int l[n]) := by
      rw [atI_at (by simpa using hi)]; simp
    have h60 : small62 60 = true := by decide
    have p10 : ((10 : Int) ^ (18 : Int).toNat) = 1000000000000000000 := by decide
    have hmm : ∀ i : Int, cMul (i % 65537) 69621 = true := fun i => cMul_ok (mod_small i (by decide) (by decide)) (by decide)
    have ab : ∀ i : Int, (if i < 0 then -i else i) = (if i < 0 then -i else i) := fun _ => rfl
    generalize hc : (if l[n] < 0 then -l[n] else l[n]) = c
    by_cases hb : 1000000000000000000 ≤ c
    · obtain ⟨dr2, z2, hl2, e2⟩ := dr_in l many ((mx * 48271 + c % 1000003 + n) % 65537) (.fz (.int n)) (.fz (.int c)) ob dr' c (by omega)
      refine ⟨_, _, rfl, ?_, dr2, (mx * 48271 + c % 1000003 + n) % 65537, by omega, mod_small _ (by decide) (by decide), rfl⟩
      unfold drS at e2
      simp [drS, m_dr2, sSeq, sIf, sAsg, sAsgT, sAug, sPar, sFor, sForget, sRet, sRetN, sAppend, sExtend, sNext, sBrk, sCont, sDrop, appv, isLst, gB, bv, gNp, npv, gOp, gUn, gVar, gC, gCB, gFz, fzv, gTru, tru, gAndT, gOrT, gNotT, gAnd, gOr, gNot, gIf, PL.gTup, gLst, gIsi, gIsi2, tyN_non, tyN_bl, tyN_int, tyN_str, tyN_tup, tyN_lst, tyN_tl, gSl, oNone, oSome, intv, aNil, aCons, iRange1, iRange2, rng1, rng2, iOf, itv, bLen, bAbs, bInt, bTuple, bList, lenT, pI, pAdd, pIx4, pIx, pDGet, dctAt, dat, look, tgName, forgets, retv, gCall, T.able, T.view, List.getElem?_cons_zero, List.getElem?_cons_succ, List.set_cons_zero, List.set_cons_succ, R.bind_ok, R.bindO_ok, List.length_cons, List.length_nil, dats, trees, lsd, fin, ables_map, views_map', ables_nil, views_nil, ables_cons, views_cons, filter_true', atI_c0, atI_c1, atI_c2, atI_nil, sz_0, sz_1, sz_2, sz_3, sz_4, sz_5, sz_6, sz_7, sz_8, sz_9, sz_10, sz_11, sz_12, sz_13, sz_14, sz_15, h2, h3, h4, hc, p10, hb, h60, e2]
    · obtain ⟨dr2, z2, hl2, e2⟩ := dr_in l many ((mx * 48271 + c % 1000003 + n) % 65537) (.fz (.int n)) (.fz (.int c)) ob (dr' ++ [c % 997] ++ [((mx * 48271 + c % 1000003 + n) % 65537 * 69621 + 5) % 65521 % 997]) 0 (by simp; omega)
      refine ⟨_, _, rfl, ?_, dr2, (mx * 48271 + c % 1000003 + n) % 65537, by simp at hl2; omega, mod_small _ (by decide) (by decide), rfl⟩
      unfold drS at e2
      simp at e2
      simp [drS, m_dr2, sSeq, sIf, sAsg, sAsgT, sAug, sPar, sFor, sForget, sRet, sRetN, sAppend, sExtend, sNext, sBrk, sCont, sDrop, appv, isLst, gB, bv, gNp, npv, gOp, gUn, gVar, gC, gCB, gFz, fzv, gTru, tru, gAndT, gOrT, gNotT, gAnd, gOr, gNot, gIf, PL.gTup, gLst, gIsi, gIsi2, tyN_non, tyN_bl, tyN_int, tyN_str, tyN_tup, tyN_lst, tyN_tl, gSl, oNone, oSome, intv, aNil, aCons, iRange1, iRange2, rng1, rng2, iOf, itv, bLen, bAbs, bInt, bTuple, bList, lenT, pI, pAdd, pIx4, pIx, pDGet, dctAt, dat, look, tgName, forgets, retv, gCall, T.able, T.view, List.getElem?_cons_zero, List.getElem?_cons_succ, List.set_cons_zero, List.set_cons_succ, R.bind_ok, R.bindO_ok, List.length_cons, List.length_nil, dats, trees, lsd, fin, ables_map, views_map', ables_nil, views_nil, ables_cons, views_cons, filter_true', atI_c0, atI_c1, atI_c2, atI_nil, sz_0, sz_1, sz_2, sz_3, sz_4, sz_5, sz_6, sz_7, sz_8, sz_9, sz_10, sz_11, sz_12, sz_13, sz_14, sz_15, h2, h3, h4, hc, p10, hb, h60, e2, h1, h1', hmm]) (drS l many [] 7 .hole .hole .hole .hole ob) ⟨[], 7, by simp, by decide, rfl⟩
  obtain ⟨s', e, dr', z', h1, h2, rfl⟩ := H
  rw [rangeD_len] at h1
  exact ⟨dr', z', h1, h2, e⟩
def m_dr3 : GS := (sSeq (sAsg 3 (gOp pMod (gCB bInt (aCons (gOp pAdd (gOp pAdd (gOp pMulI (gVar 3) (gC (.int 16807))) (gVar 4)) (gC (.int 1))) aNil)) (gC (.int 65537))))
  (sSeq (sAppend 2 (gOp pMod (gCB bInt (aCons (gVar 3) aNil)) (gC (.int 997))))
  (sForget [4] sNext)))
theorem dr_out (l : List Int) (many : Nat) (ob : List T) (dr : List Int) (mx : Int) (hm : mx.natAbs < 2 ^ 64) (hd : dr.length ≤ 10000) (hmany : many ≤ 100000) :
    ∃ (dr' : List Int) (mx' : Int), dr'.length ≤ 200000 ∧ forGo (tgName 4) m_dr3 (rangeD 0 many) (drS l many dr mx .hole .hole .hole .hole ob) = .next (drS l many dr' mx' .hole .hole .hole .hole ob) := by
  have H := forGo_ix (tg := tgName 4) (body := m_dr3) (ds := rangeD 0 many) (fun n s => ∃ (dr' : List Int) (mx' : Int), dr'.length ≤ dr.length + n ∧ mx'.natAbs < 2 ^ 64 ∧ s = drS l many dr' mx' .hole .hole .hole .hole ob) (fun n d s hm h => by
    obtain ⟨hi, rfl⟩ := rgGet hm
    obtain ⟨dr', mx, hd, hmx, rfl⟩ := h
    have h1 : dr'.length < sizeLine := by show _ < 16777216; omega
    have h2 : cMul mx 16807 = true := cMul_ok hmx (by decide)
    refine ⟨_, _, rfl, ?_, dr' ++ [(mx * 16807 + n + 1) % 65537 % 997], (mx * 16807 + n + 1) % 65537, by simp; omega, mod_small _ (by decide) (by decide), rfl⟩
    simp [drS, m_dr3, sSeq, sIf, sAsg, sAsgT, sAug, sPar, sFor, sForget, sRet, sRetN, sAppend, sExtend, sNext, sBrk, sCont, sDrop, appv, isLst, gB, bv, gNp, npv, gOp, gUn, gVar, gC, gCB, gFz, fzv, gTru, tru, gAndT, gOrT, gNotT, gAnd, gOr, gNot, gIf, PL.gTup, gLst, gIsi, gIsi2, tyN_non, tyN_bl, tyN_int, tyN_str, tyN_tup, tyN_lst, tyN_tl, gSl, oNone, oSome, intv, aNil, aCons, iRange1, iRange2, rng1, rng2, iOf, itv, bLen, bAbs, bInt, bTuple, bList, lenT, pI, pAdd, pIx4, pIx, pDGet, dctAt, dat, look, tgName, forgets, retv, gCall, T.able, T.view, List.getElem?_cons_zero, List.getElem?_cons_succ, List.set_cons_zero, List.set_cons_succ, R.bind_ok, R.bindO_ok, List.length_cons, List.length_nil, dats, trees, lsd, fin, ables_map, views_map', ables_nil, views_nil, ables_cons, views_cons, filter_true', atI_c0, atI_c1, atI_c2, atI_nil, sz_0, sz_1, sz_2, sz_3, sz_4, sz_5, sz_6, sz_7, sz_8, sz_9, sz_10, sz_11, sz_12, sz_13, sz_14, sz_15, h2, h1]) (drS l many dr mx .hole .hole .hole .hole ob) ⟨dr, mx, by simp, hm, rfl⟩
  obtain ⟨s', e, dr', z', h1, h2, rfl⟩ := H
  rw [rangeD_len] at h1
  exact ⟨dr', z', by omega, e⟩
theorem fzs_ints (l : List Int) : fzs (l.map fun i => T.fz (.int i)) = some (l.map .int) := by
  have := fzs_map (l.map D.int)
  rw [List.map_map] at this
  exact this
theorem cutD_map {α β : Type} (f : α → β) (xs : List α) (lo hi : Option Int) : cutD (xs.map f) lo hi = (cutD xs lo hi).map f := by
  unfold cutD
  simp
theorem small_nat {n : Nat} (h : n ≤ 100000) : small62 (n : Int) = true :=
  decide_eq_true (Nat.lt_of_le_of_lt (show (n : Int).natAbs ≤ 100000 from h) (by decide))
theorem drS_0 (l : List Int) (many : Int) (ob : List T) : (⟨[.fz (.fl (l.map .int)), .fz (.int many), .lst [], .fz (.int 7), .hole, .hole, .hole, .hole], ob⟩ : S) = drS l many [] 7 .hole .hole .hole .hole ob := rfl
theorem fnD_ret {k : Nat} {body : GS} {ds : List D} {ob : List T} {t : T} {s : S} (h : body ⟨ds.map T.fz ++ List.replicate k .hole, ob⟩ = .ret t s) : fnD k body ds ob = .ok t s.ob := by
  unfold fnD
  rw [h]
theorem fnD_next {k : Nat} {body : GS} {ds : List D} {ob : List T} {s : S} (h : body ⟨ds.map T.fz ++ List.replicate k .hole, ob⟩ = .next s) : fnD k body ds ob = .ok (.fz .non) s.ob := by
  unfold fnD
  rw [h]
def m_dr0 (b2 b3 : GS) : GS := sSeq (sAsg 2 (gLst aNil))
  (sSeq (sAsg 3 (gC (.int 7)))
  (sSeq (sFor (iRange1 (aCons (gCB bLen (aCons (gVar 0) aNil)) aNil)) (tgName 4) b2)
  (sSeq (sFor (iRange1 (aCons (gVar 1) aNil)) (tgName 4) b3)
  (sRet (gSl (gVar 2) oNone (oSome (gVar 1)))))))
theorem draws_run {b2 b3 : GS} {x : List D} {y1 y2 : List T} {many : Nat} {ob : List T} {m1 m2 : Int} (hsl : small62 (x.length : Int) = true) (hsm : small62 (many : Int) = true)
    (e1 : forGo (tgName 4) b2 (rangeD 0 x.length) ⟨[.fz (.fl x), .fz (.int many), .lst [], .fz (.int 7), .hole, .hole, .hole, .hole], ob⟩ = .next ⟨[.fz (.fl x), .fz (.int many), .lst y1, .fz (.int m1), .hole, .hole, .hole, .hole], ob⟩)
    (e2 : forGo (tgName 4) b3 (rangeD 0 many) ⟨[.fz (.fl x), .fz (.int many), .lst y1, .fz (.int m1), .hole, .hole, .hole, .hole], ob⟩ = .next ⟨[.fz (.fl x), .fz (.int many), .lst y2, .fz (.int m2), .hole, .hole, .hole, .hole], ob⟩) {z : List D} (hz : fzs y2 = some z) :
    m_dr0 b2 b3 ⟨[.fz (.fl x), .fz (.int many), .hole, .hole, .hole, .hole, .hole, .hole], ob⟩ = .ret (.lst ((cutD z none (some (many : Int))).map .fz)) ⟨[.fz (.fl x), .fz (.int many), .lst y2, .fz (.int m2), .hole, .hole, .hole, .hole], ob⟩ := by
  have h0 : 0 ≤ sizeLine := Nat.zero_le _
  unfold m_dr0
  simp [sSeq, sIf, sAsg, sAsgT, sAug, sPar, sFor, sForget, sRet, sRetN, sAppend, sExtend, sNext, sBrk, sCont, sDrop, appv, isLst, gB, bv, gNp, npv, gOp, gUn, gVar, gC, gCB, gFz, fzv, gTru, tru, gAndT, gOrT, gNotT, gAnd, gOr, gNot, gIf, PL.gTup, gLst, gIsi, gIsi2, tyN_non, tyN_bl, tyN_int, tyN_str, tyN_tup, tyN_lst, tyN_tl, gSl, oNone, oSome, intv, aNil, aCons, iRange1, iRange2, rng1, rng2, iOf, itv, bLen, bAbs, bInt, bTuple, bList, lenT, pI, pAdd, pIx4, pIx, pDGet, dctAt, dat, look, tgName, forgets, retv, gCall, T.able, T.view, List.getElem?_cons_zero, List.getElem?_cons_succ, List.set_cons_zero, List.set_cons_succ, R.bind_ok, R.bindO_ok, List.length_cons, List.length_nil, dats, trees, lsd, fin, ables_map, views_map', ables_nil, views_nil, ables_cons, views_cons, filter_true', atI_c0, atI_c1, atI_c2, atI_nil, sz_0, sz_1, sz_2, sz_3, sz_4, sz_5, sz_6, sz_7, sz_8, sz_9, sz_10, sz_11, sz_12, sz_13, sz_14, sz_15, hsl, hsm, e1, e2, pSl, hz, h0]
def m_draws : GS := sSeq (sAsg 2 (gLst aNil))
  (sSeq (sAsg 3 (gC (.int 7)))
  (sSeq (sFor (iRange1 (aCons (gCB bLen (aCons (gVar 0) aNil)) aNil)) (tgName 4) m_dr2)
  (sSeq (sFor (iRange1 (aCons (gVar 1) aNil)) (tgName 4) m_dr3)
  (sRet (gSl (gVar 2) oNone (oSome (gVar 1)))))))
/-- the draws of a script: some whole numbers -/
theorem draws_ok (l : List Int) (many : Nat) (ob : List T) (hl : l.length ≤ 63) (hm : many ≤ 100000) : ∃ dr : List Int, fnD 6 m_draws [.fl (l.map .int), .int many] ob = .ok (.lst (dr.map fun i => .fz (.int i))) ob := by
  obtain ⟨d1, m1, h1, h2, e1⟩ := dr_mid l many ob hl
  obtain ⟨d2, m2, h3, e2⟩ := dr_out l many ob d1 m1 h2 (by omega) hm
  have hl2 : [D.fl (l.map .int), D.int many].map T.fz ++ List.replicate 6 T.hole = [.fz (.fl (l.map .int)), .fz (.int many), .hole, .hole, .hole, .hole, .hole, .hole] := rfl
  have hs := draws_run (b2 := m_dr2) (b3 := m_dr3) (x := l.map .int) (many := many) (ob := ob) (m1 := m1) (m2 := m2) (by rw [List.length_map]; exact small_nat (by omega)) (small_nat hm) (by rw [List.length_map]; exact e1) e2 (fzs_ints d2)
  refine ⟨cutD d2 none (some many), ?_⟩
  have hm : m_draws = m_dr0 m_dr2 m_dr3 := rfl
  unfold fnD
  rw [hl2, hm, hs, cutD_map, List.map_map]
  rfl
/-! ### the drawing of a number -/
/-- the object of the draws -/
def wT (l : List Int) (at_ : Nat) : T := .dct [.inr "draws", .inr "at"] [.fz (.lst (l.map .int)), .fz (.int at_)]
def m_next : GS := (sSeq (sDAug (gVar 0) (gC (.str "at")) pAddI (gC (.int 1)))
  (sSeq (sIf (gB (gOp pGtI (gOp pIx4 (gVar 0) (gC (.str "at"))) (gCB bLen (aCons (gOp pIx4 (gVar 0) (gC (.str "draws"))) aNil)))) (sRet (gC (.int 0))) sNext)
  (sRet (gOp pMod (gCB bInt (aCons (gOp pIx4 (gOp pIx4 (gVar 0) (gC (.str "draws"))) (gOp pSub (gOp pIx4 (gVar 0) (gC (.str "at"))) (gC (.int 1)))) aNil)) (gVar 1)))))
def nxt (l : List Int) (at_ : Nat) (many : Int) : Int := if at_ < l.length then l.getD at_ 0 % many else 0
theorem nxt_lt {l : List Int} {at_ : Nat} {many : Int} (h : 0 < many) : 0 ≤ nxt l at_ many ∧ nxt l at_ many < many := by
  unfold nxt
  split
  · exact ⟨Int.emod_nonneg _ (by omega), Int.emod_lt_of_pos _ h⟩
  · exact ⟨by omega, h⟩
theorem next_run (l : List Int) (at_ : Nat) (many : Int) (rest : List T) (h : 0 < many) :
    m_next ⟨[.fz (.obj 0), .fz (.int many)], wT l at_ :: rest⟩ = .ret (.fz (.int (nxt l at_ many))) ⟨[.fz (.obj 0), .fz (.int many)], wT l (at_ + 1) :: rest⟩ := by
  have k1 : keyIx [.inr "draws", .inr "at"] (.inr "at") = some 1 := by decide
  have k2 : keyIx [.inr "draws", .inr "at"] (.inr "draws") = some 0 := by decide
  have hs : 2 < sizeLine := by decide
  by_cases hl : at_ < l.length
  · have h1 : ¬ ((l.length : Int) < (at_ : Int) + 1) := by omega
    have h4 : atI (l.map D.int) (at_ : Int) = some (.int l[at_]) := by
      rw [atI_at (by simpa using hl)]; simp
    have h5 : nxt l at_ many = l[at_] % many := by simp [nxt, hl]
    simp [m_next, wT, sSeq, sIf, sAsg, sAsgT, sAug, sPar, sFor, sForget, sRet, sRetN, sAppend, sExtend, sNext, sBrk, sCont, sDrop, appv, isLst, gB, bv, gNp, npv, gOp, gUn, gVar, gC, gCB, gFz, fzv, gTru, tru, gAndT, gOrT, gNotT, gAnd, gOr, gNot, gIf, PL.gTup, gLst, gIsi, gIsi2, tyN_non, tyN_bl, tyN_int, tyN_str, tyN_tup, tyN_lst, tyN_tl, gSl, oNone, oSome, intv, aNil, aCons, iRange1, iRange2, rng1, rng2, iOf, itv, bLen, bAbs, bInt, bTuple, bList, lenT, pI, pAdd, pIx4, pIx, pDGet, dctAt, dat, look, tgName, forgets, retv, gCall, T.able, T.view, List.getElem?_cons_zero, List.getElem?_cons_succ, List.set_cons_zero, List.set_cons_succ, R.bind_ok, R.bindO_ok, List.length_cons, List.length_nil, dats, trees, lsd, fin, ables_map, views_map', ables_nil, views_nil, ables_cons, views_cons, filter_true', atI_c0, atI_c1, atI_c2, atI_nil, sz_0, sz_1, sz_2, sz_3, sz_4, sz_5, sz_6, sz_7, sz_8, sz_9, sz_10, sz_11, sz_12, sz_13, sz_14, sz_15, sDAug, dputv, dctSet, keyD, k1, k2, dPut, hs, h1, h4, h5, h]
  · have h1 : ((l.length : Int) < (at_ : Int) + 1) := by omega
    have h5 : nxt l at_ many = 0 := by simp [nxt, hl]
    simp [m_next, wT, sSeq, sIf, sAsg, sAsgT, sAug, sPar, sFor, sForget, sRet, sRetN, sAppend, sExtend, sNext, sBrk, sCont, sDrop, appv, isLst, gB, bv, gNp, npv, gOp, gUn, gVar, gC, gCB, gFz, fzv, gTru, tru, gAndT, gOrT, gNotT, gAnd, gOr, gNot, gIf, PL.gTup, gLst, gIsi, gIsi2, tyN_non, tyN_bl, tyN_int, tyN_str, tyN_tup, tyN_lst, tyN_tl, gSl, oNone, oSome, intv, aNil, aCons, iRange1, iRange2, rng1, rng2, iOf, itv, bLen, bAbs, bInt, bTuple, bList, lenT, pI, pAdd, pIx4, pIx, pDGet, dctAt, dat, look, tgName, forgets, retv, gCall, T.able, T.view, List.getElem?_cons_zero, List.getElem?_cons_succ, List.set_cons_zero, List.set_cons_succ, R.bind_ok, R.bindO_ok, List.length_cons, List.length_nil, dats, trees, lsd, fin, ables_map, views_map', ables_nil, views_nil, ables_cons, views_cons, filter_true', atI_c0, atI_c1, atI_c2, atI_nil, sz_0, sz_1, sz_2, sz_3, sz_4, sz_5, sz_6, sz_7, sz_8, sz_9, sz_10, sz_11, sz_12, sz_13, sz_14, sz_15, sDAug, dputv, dctSet, keyD, k1, k2, dPut, hs, h1, h5, h]
theorem next_ok (l : List Int) (at_ : Nat) (many : Int) (rest : List T) (h : 0 < many) :
    fnD 0 m_next [.obj 0, .int many] (wT l at_ :: rest) = .ok (.fz (.int (nxt l at_ many))) (wT l (at_ + 1) :: rest) := by
  have hl2 : [D.obj 0, D.int many].map T.fz ++ List.replicate 0 T.hole = [.fz (.obj 0), .fz (.int many)] := rfl
  unfold fnD
  rw [hl2, next_run l at_ many rest h]
end PL
set_option Elab.async false
set_option linter.all false
set_option maxRecDepth 100000
set_option autoImplicit false
namespace PL
open PySem PySem.Spec PyProof.Rows L2
/-! ### data of a depth, equality of data -/
mutual
/-- plain data, at most n deep: no thing from outside, no number of the store -/
def okD : Nat → D → Bool
  | _, .non => true
  | _, .bl _ => true
  | _, .int _ => true
  | _, .str s => PyData.strOk s
  | n, .tup ds => decide (ds.length ≤ 100000) && okDs n ds
  | n, .lst ds => decide (ds.length ≤ 100000) && okDs n ds
  | _, .fl _ => false
  | _, .obj _ => false
  | _, .fn _ => false
def okDs : Nat → List D → Bool
  | 0, _ => false
  | _ + 1, [] => true
  | n + 1, d :: ds => okD n d && okDs (n + 1) ds
end
mutual
def eqD : D → D → Bool
  | .non, .non => true
  | .bl a, .bl b => a == b
  | .bl a, .int j => (if a then 1 else 0) == j
  | .int i, .bl b => i == (if b then 1 else 0)
  | .int i, .int j => i == j
  | .str x, .str y => x == y
  | .tup xs, .tup ys => eqDs xs ys
  | .lst xs, .lst ys => eqDs xs ys
  | .lst xs, .fl ys => eqDs xs ys
  | .fl xs, .lst ys => eqDs xs ys
  | .fl xs, .fl ys => eqDs xs ys
  | _, _ => false
def eqDs : List D → List D → Bool
  | [], [] => true
  | x :: xs, y :: ys => eqD x y && eqDs xs ys
  | _, _ => false
end
mutual
theorem eqD_py : ∀ (a b : D) (p q : PyData), toPy a = some p → toPy b = some q → PyData.eqv p q = eqD a b
  | a, b, p, q, h1, h2 => by
    cases a <;> simp only [toPy, Option.map_eq_some_iff, Option.some.injEq] at h1 <;> try (first | (cases h1; done) | skip)
    all_goals cases b <;> simp only [toPy, Option.map_eq_some_iff, Option.some.injEq] at h2
    all_goals first
      | (exfalso; cases h2; done)
      | (exfalso; cases h1; done)
      | (subst h1; subst h2; simp [PyData.eqv, eqD]; done)
      | (obtain ⟨ps, e1, rfl⟩ := h1; subst h2; simp [PyData.eqv, eqD]; done)
      | (subst h1; obtain ⟨qs, e2, rfl⟩ := h2; simp [PyData.eqv, eqD]; done)
      | (obtain ⟨ps, e1, rfl⟩ := h1; obtain ⟨qs, e2, rfl⟩ := h2; simp [PyData.eqv, eqD]; done)
      | (obtain ⟨ps, e1, rfl⟩ := h1; obtain ⟨qs, e2, rfl⟩ := h2; simp only [PyData.eqv, eqD]; exact eqDs_py _ _ _ _ e1 e2)
      | cases h1
      | cases h2
theorem eqDs_py : ∀ (a b : List D) (p q : List PyData), toPys a = some p → toPys b = some q → PyData.eqvAll p q = eqDs a b
  | [], [], p, q, h1, h2 => by cases h1; cases h2; rfl
  | [], y :: ys, p, q, h1, h2 => by
    cases h1
    unfold toPys at h2
    split at h2
    · cases h2; rfl
    · cases h2
  | x :: xs, [], p, q, h1, h2 => by
    cases h2
    unfold toPys at h1
    split at h1
    · cases h1; rfl
    · cases h1
  | x :: xs, y :: ys, p, q, h1, h2 => by
    unfold toPys at h1 h2
    split at h1
    · rename_i p1 ps1 e1 e2
      split at h2
      · rename_i q1 qs1 e3 e4
        cases h1; cases h2
        rw [PyData.eqvAll, eqDs, eqD_py x y p1 q1 e1 e3, eqDs_py xs ys ps1 qs1 e2 e4]
      · cases h2
    · cases h1
end
mutual
theorem okD_py : ∀ (n : Nat) (d : D), okD n d = true → ∃ p, toPy d = some p ∧ p.canLay0 = true ∧ p.depth ≤ n
  | n, .non, _ => ⟨_, rfl, rfl, Nat.zero_le _⟩
  | n, .bl _, _ => ⟨_, rfl, rfl, Nat.zero_le _⟩
  | n, .int _, _ => ⟨_, rfl, rfl, Nat.zero_le _⟩
  | n, .str s, h => ⟨_, rfl, by simpa [PyData.canLay0, okD] using h, Nat.zero_le _⟩
  | n, .tup ds, h => by
    obtain ⟨m, rfl, ps, e, h1, h2⟩ := okDs_py n ds (by rw [okD] at h; exact (Bool.and_eq_true_iff.mp h).2)
    exact ⟨.tuple ps, by rw [toPy, e]; rfl, by simpa [PyData.canLay0] using h1, by rw [PyData.depth]; omega⟩
  | n, .lst ds, h => by
    obtain ⟨m, rfl, ps, e, h1, h2⟩ := okDs_py n ds (by rw [okD] at h; exact (Bool.and_eq_true_iff.mp h).2)
    exact ⟨.list ps, by rw [toPy, e]; rfl, by simpa [PyData.canLay0] using h1, by rw [PyData.depth]; omega⟩
  | n, .fl ds, h => by simp [okD] at h
  | n, .obj _, h => by simp [okD] at h
  | n, .fn _, h => by simp [okD] at h
theorem okDs_py : ∀ (n : Nat) (ds : List D), okDs n ds = true → ∃ m, n = m + 1 ∧ ∃ ps, toPys ds = some ps ∧ PyData.canLayAll0 ps = true ∧ PyData.depthAll ps ≤ m
  | 0, ds, h => by unfold okDs at h; cases h
  | n + 1, [], _ => ⟨n, rfl, [], rfl, rfl, Nat.zero_le _⟩
  | n + 1, d :: ds, h => by
    have h' : okD n d = true ∧ okDs (n + 1) ds = true := by simpa [okDs] using h
    obtain ⟨p, e1, c1, d1⟩ := okD_py n d h'.1
    obtain ⟨m, em, ps, e2, c2, d2⟩ := okDs_py (n + 1) ds h'.2
    cases em
    refine ⟨n, rfl, p :: ps, by rw [toPys, e1, e2], by simp [PyData.canLayAll0, c1, c2], ?_⟩
    rw [PyData.depthAll]
    omega
end
theorem okDs_all {n : Nat} : ∀ {ds : List D}, okDs (n + 1) ds = true ↔ ∀ d ∈ ds, okD n d = true
  | [] => by simp [okDs]
  | d :: ds => by simp [okDs, okDs_all (ds := ds)]
mutual
theorem okD_mono : ∀ (n m : Nat) (d : D), n ≤ m → okD n d = true → okD m d = true
  | n, m, .non, _, _ => rfl
  | n, m, .bl _, _, _ => rfl
  | n, m, .int _, _, _ => rfl
  | n, m, .str s, _, h => by simpa [okD] using h
  | n, m, .tup ds, l, h => by rw [okD] at h ⊢; exact Bool.and_eq_true_iff.mpr ⟨(Bool.and_eq_true_iff.mp h).1, okDs_mono n m ds l (Bool.and_eq_true_iff.mp h).2⟩
  | n, m, .lst ds, l, h => by rw [okD] at h ⊢; exact Bool.and_eq_true_iff.mpr ⟨(Bool.and_eq_true_iff.mp h).1, okDs_mono n m ds l (Bool.and_eq_true_iff.mp h).2⟩
  | n, m, .fl ds, _, h => by simp [okD] at h
  | n, m, .obj _, _, h => by simp [okD] at h
  | n, m, .fn _, _, h => by simp [okD] at h
theorem okDs_mono : ∀ (n m : Nat) (ds : List D), n ≤ m → okDs n ds = true → okDs m ds = true
  | 0, _, ds, _, h => by unfold okDs at h; cases h
  | n + 1, 0, _, l, _ => by omega
  | n + 1, m + 1, [], _, _ => rfl
  | n + 1, m + 1, d :: ds, l, h => by
    have h' : okD n d = true ∧ okDs (n + 1) ds = true := by simpa [okDs] using h
    simp [okDs, okD_mono n m d (by omega) h'.1, okDs_mono (n + 1) (m + 1) ds l h'.2]
end
theorem okD_shaped {d : D} (h : okD 64 d = true) : ∃ p, toPy d = some p ∧ SeqAt.shaped p = true := by
  obtain ⟨p, e, h1, h2⟩ := okD_py 64 d h
  exact ⟨p, e, by simp [SeqAt.shaped, h1, h2]⟩
theorem dEq_ok {a b : D} (ha : okD 64 a = true) (hb : okD 64 b = true) : dEq a b = some (eqD a b) := by
  obtain ⟨p, e1, s1⟩ := okD_shaped ha
  obtain ⟨q, e2, s2⟩ := okD_shaped hb
  unfold dEq
  rw [e1, e2]
  simp only [s1, s2, Bool.and_self, if_true]
  rw [eqD_py a b p q e1 e2]
theorem any_py (d : D) (p : PyData) (e : toPy d = some p) : ∀ (ds : List D) (ps : List PyData), toPys ds = some ps → (ps.any fun z => PyData.eqv z p) = ds.any fun z => eqD z d
  | [], ps, h => by cases h; rfl
  | x :: xs, ps, h => by
    unfold toPys at h
    split at h
    · rename_i p1 ps1 e1 e2
      cases h
      rw [List.any_cons, List.any_cons, eqD_py x d p1 p e1 e, any_py d p e xs ps1 e2]
    · cases h
theorem dIn_ok {d : D} {ds : List D} (hd : okD 64 d = true) (hs : okD 64 (.lst ds) = true) : dIn d ds = some (ds.any fun z => eqD z d) := by
  obtain ⟨p, e1, s1⟩ := okD_shaped hd
  obtain ⟨q, e2, s2⟩ := okD_shaped hs
  rw [toPy, Option.map_eq_some_iff] at e2
  obtain ⟨ps, e3, rfl⟩ := e2
  unfold dIn
  rw [e1, e3]
  simp only [s1, s2, Bool.and_self, if_true]
  rw [any_py d p e1 ds ps e3]
theorem pEq_fz {s : S} {a b : D} (ha : okD 64 a = true) (hb : okD 64 b = true) : pEq s (.tr (.fz a)) (.tr (.fz b)) = .ok (.tr (.fz (.bl (eqD a b)))) s := by
  unfold pEq
  rw [rd_fz, rd_fz]
  simp only [dEq_ok ha hb]
theorem pNe_fz {s : S} {a b : D} (ha : okD 64 a = true) (hb : okD 64 b = true) : pNe s (.tr (.fz a)) (.tr (.fz b)) = .ok (.tr (.fz (.bl (!eqD a b)))) s := by
  unfold pNe
  rw [rd_fz, rd_fz]
  simp only [dEq_ok ha hb]
theorem pEq_int {s : S} {a b : Int} : pEq s (.tr (.fz (.int a))) (.tr (.fz (.int b))) = .ok (.tr (.fz (.bl (a == b)))) s := pEq_fz (a := .int a) (b := .int b) rfl rfl
theorem pNe_int {s : S} {a b : Int} : pNe s (.tr (.fz (.int a))) (.tr (.fz (.int b))) = .ok (.tr (.fz (.bl (!(a == b))))) s := pNe_fz (a := .int a) (b := .int b) rfl rfl
theorem pIn_tup {s : S} {d : D} {ds : List D} (hd : okD 64 d = true) (hs : okD 64 (.lst ds) = true) : pIn s (.tr (.fz d)) (.tr (.fz (.tup ds))) = .ok (.tr (.fz (.bl (ds.any fun z => eqD z d)))) s := by
  unfold pIn inD
  rw [rd_fz, rd_fz]
  simp only [Option.bind_some, dIn_ok hd hs]
theorem pIn_lst {s : S} {d : D} {ds : List D} (hd : okD 64 d = true) (hs : okD 64 (.lst ds) = true) : pIn s (.tr (.fz d)) (.tr (.fz (.lst ds))) = .ok (.tr (.fz (.bl (ds.any fun z => eqD z d)))) s := by
  unfold pIn inD
  rw [rd_fz, rd_fz]
  simp only [Option.bind_some, dIn_ok hd hs]
/-! ### a comprehension whose parts change nothing -/
theorem compGo_pure {own : List Nat} {tg : GG} {gt : GT} {ge : G} {s : S} (p : D → Bool) (f : D → T) : ∀ (ds : List D) (acc : List T),
    (∀ d ∈ ds, ∃ s1, tg d s = some s1 ∧ gt s1 = .ok (p d) s1 ∧ (p d = true → gNp ge s1 = .ok (.tr (f d)) s1) ∧ forgets own s1 = s) → acc.length + ds.length ≤ sizeLine →
    compGo own tg gt ge ds acc s = .ok (acc ++ (ds.filter p).map f) s
  | [], acc, _, _ => by simp [compGo]
  | d :: ds, acc, h, hl => by
    obtain ⟨s1, e1, e2, e3, e4⟩ := h d (List.mem_cons_self ..)
    rw [List.length_cons] at hl
    unfold compGo
    rw [e1]
    simp only
    rw [e2, R.bind_ok]
    cases hp : p d with
    | false =>
      rw [if_neg (by decide), e4, compGo_pure p f ds acc (fun d hd => h d (List.mem_cons_of_mem _ hd)) (by omega)]
      simp [hp]
    | true =>
      rw [if_pos rfl, e3 hp, R.bind_ok]
      simp only
      rw [if_pos (by omega), e4, compGo_pure p f ds (acc ++ [f d]) (fun d hd => h d (List.mem_cons_of_mem _ hd)) (by rw [List.length_append]; simp only [List.length_cons, List.length_nil]; omega)]
      simp [hp]
theorem eqD_str (x : D) (s : Str) : eqD x (.str s) = true ↔ x = .str s := by
  cases x <;> simp [eqD]
theorem eqD_str' (x : D) (s : Str) : eqD (.str s) x = eqD x (.str s) := by
  cases x <;> simp [eqD]
  exact Bool.beq_comm
end PL
set_option Elab.async false
set_option linter.all false
set_option maxRecDepth 100000
set_option autoImplicit false
namespace PL
open PySem PySem.Spec PyProof.Rows L2
theorem kit_NoneType_tuple : kitB "NoneType" "tuple" = some false := by decide +kernel
theorem kit_NoneType_bool : kitB "NoneType" "bool" = some false := by decide +kernel
theorem kit_NoneType_int : kitB "NoneType" "int" = some false := by decide +kernel
theorem kit_NoneType_str : kitB "NoneType" "str" = some false := by decide +kernel
theorem kit_NoneType_list : kitB "NoneType" "list" = some false := by decide +kernel
theorem kit_NoneType_dict : kitB "NoneType" "dict" = some false := by decide +kernel
theorem kit_bool_tuple : kitB "bool" "tuple" = some false := by decide +kernel
theorem kit_bool_bool : kitB "bool" "bool" = some true := by decide +kernel
theorem kit_bool_int : kitB "bool" "int" = some true := by decide +kernel
theorem kit_bool_str : kitB "bool" "str" = some false := by decide +kernel
theorem kit_bool_list : kitB "bool" "list" = some false := by decide +kernel
theorem kit_bool_dict : kitB "bool" "dict" = some false := by decide +kernel
theorem kit_int_tuple : kitB "int" "tuple" = some false := by decide +kernel
theorem kit_int_bool : kitB "int" "bool" = some false := by decide +kernel
theorem kit_int_int : kitB "int" "int" = some true := by decide +kernel
theorem kit_int_str : kitB "int" "str" = some false := by decide +kernel
theorem kit_int_list : kitB "int" "list" = some false := by decide +kernel
theorem kit_int_dict : kitB "int" "dict" = some false := by decide +kernel
theorem kit_str_tuple : kitB "str" "tuple" = some false := by decide +kernel
theorem kit_str_bool : kitB "str" "bool" = some false := by decide +kernel
theorem kit_str_int : kitB "str" "int" = some false := by decide +kernel
theorem kit_str_str : kitB "str" "str" = some true := by decide +kernel
theorem kit_str_list : kitB "str" "list" = some false := by decide +kernel
theorem kit_str_dict : kitB "str" "dict" = some false := by decide +kernel
theorem kit_tuple_tuple : kitB "tuple" "tuple" = some true := by decide +kernel
theorem kit_tuple_bool : kitB "tuple" "bool" = some false := by decide +kernel
theorem kit_tuple_int : kitB "tuple" "int" = some false := by decide +kernel
theorem kit_tuple_str : kitB "tuple" "str" = some false := by decide +kernel
theorem kit_tuple_list : kitB "tuple" "list" = some false := by decide +kernel
theorem kit_tuple_dict : kitB "tuple" "dict" = some false := by decide +kernel
theorem kit_list_tuple : kitB "list" "tuple" = some false := by decide +kernel
theorem kit_list_bool : kitB "list" "bool" = some false := by decide +kernel
theorem kit_list_int : kitB "list" "int" = some false := by decide +kernel
theorem kit_list_str : kitB "list" "str" = some false := by decide +kernel
theorem kit_list_list : kitB "list" "list" = some true := by decide +kernel
theorem kit_list_dict : kitB "list" "dict" = some false := by decide +kernel
theorem rd_tlst (s : S) (ds : List D) : rd s (.tr (.lst (ds.map T.fz))) = some (.lst ds) := by
  have h1 : ∀ ds : List D, T.ables (ds.map T.fz) = true := fun ds => by
    induction ds with
    | nil => rfl
    | cons d ds ih => simp [T.ables, T.able, ih]
  have h2 : T.views (ds.map T.fz) = ds := by
    rw [T.views_map, List.map_map]
    exact List.map_id'' (fun _ => rfl) ds
  unfold rd
  simp only [look_tr, T.able, h1, if_true, T.view, h2]
def m_pick (j : Nat) (F : Fns) : GS := (sRet (gOp pIx4 (gVar 1) (gCall (F j) (aCons (gFz (gVar 0)) (aCons (gFz (gCB bLen (aCons (gVar 1) aNil))) aNil)))))
theorem pick_lst {j : Nat} {F : Fns} (hF : F j = fnD 0 m_next) (l : List Int) (at_ : Nat) (rest : List T) (ds : List D) (h : ds ≠ []) :
    ∃ d, d ∈ ds ∧ fnD 0 (m_pick j F) [.obj 0, .lst ds] (wT l at_ :: rest) = .ok (.fz d) (wT l (at_ + 1) :: rest) := by
  have hp : 0 < (ds.length : Int) := by have := List.length_pos_iff.mpr h; omega
  obtain ⟨h1, h2⟩ := nxt_lt (l := l) (at_ := at_) hp
  obtain ⟨n, hn⟩ := Int.eq_ofNat_of_zero_le h1
  have hn2 : n < ds.length := by rw [hn] at h2; omega
  refine ⟨ds[n], List.getElem_mem _, ?_⟩
  have e := next_ok l at_ ds.length rest hp
  rw [← hF, hn] at e
  have ea := atI_at hn2
  have hl2 : [D.obj 0, D.lst ds].map T.fz ++ List.replicate 0 T.hole = [.fz (.obj 0), .fz (.lst ds)] := rfl
  unfold fnD
  rw [hl2]
  simp [m_pick, sSeq, sIf, sAsg, sAsgT, sAug, sPar, sFor, sForget, sRet, sRetN, sAppend, sExtend, sNext, sBrk, sCont, sDrop, appv, isLst, gB, bv, gNp, npv, gOp, gUn, gVar, gC, gCB, gFz, fzv, gTru, tru, gAndT, gOrT, gNotT, gAnd, gOr, gNot, gIf, PL.gTup, gLst, gIsi, gIsi2, tyN_non, tyN_bl, tyN_int, tyN_str, tyN_tup, tyN_lst, tyN_tl, gSl, oNone, oSome, intv, aNil, aCons, iRange1, iRange2, rng1, rng2, iOf, itv, bLen, bAbs, bInt, bTuple, bList, lenT, pI, pAdd, pIx4, pIx, pDGet, dctAt, dat, look, tgName, forgets, retv, gCall, T.able, T.view, List.getElem?_cons_zero, List.getElem?_cons_succ, List.set_cons_zero, List.set_cons_succ, R.bind_ok, R.bindO_ok, List.length_cons, List.length_nil, dats, trees, lsd, fin, ables_map, views_map', ables_nil, views_nil, ables_cons, views_cons, filter_true', atI_c0, atI_c1, atI_c2, atI_nil, sz_0, sz_1, sz_2, sz_3, sz_4, sz_5, sz_6, sz_7, sz_8, sz_9, sz_10, sz_11, sz_12, sz_13, sz_14, sz_15, e, ea]
theorem pick_tup {j : Nat} {F : Fns} (hF : F j = fnD 0 m_next) (l : List Int) (at_ : Nat) (rest : List T) (ds : List D) (h : ds ≠ []) :
    ∃ d, d ∈ ds ∧ fnD 0 (m_pick j F) [.obj 0, .tup ds] (wT l at_ :: rest) = .ok (.fz d) (wT l (at_ + 1) :: rest) := by
  have hp : 0 < (ds.length : Int) := by have := List.length_pos_iff.mpr h; omega
  obtain ⟨h1, h2⟩ := nxt_lt (l := l) (at_ := at_) hp
  obtain ⟨n, hn⟩ := Int.eq_ofNat_of_zero_le h1
  have hn2 : n < ds.length := by rw [hn] at h2; omega
  refine ⟨ds[n], List.getElem_mem _, ?_⟩
  have e := next_ok l at_ ds.length rest hp
  rw [← hF, hn] at e
  have ea := atI_at hn2
  have hl2 : [D.obj 0, D.tup ds].map T.fz ++ List.replicate 0 T.hole = [.fz (.obj 0), .fz (.tup ds)] := rfl
  unfold fnD
  rw [hl2]
  simp [m_pick, sSeq, sIf, sAsg, sAsgT, sAug, sPar, sFor, sForget, sRet, sRetN, sAppend, sExtend, sNext, sBrk, sCont, sDrop, appv, isLst, gB, bv, gNp, npv, gOp, gUn, gVar, gC, gCB, gFz, fzv, gTru, tru, gAndT, gOrT, gNotT, gAnd, gOr, gNot, gIf, PL.gTup, gLst, gIsi, gIsi2, tyN_non, tyN_bl, tyN_int, tyN_str, tyN_tup, tyN_lst, tyN_tl, gSl, oNone, oSome, intv, aNil, aCons, iRange1, iRange2, rng1, rng2, iOf, itv, bLen, bAbs, bInt, bTuple, bList, lenT, pI, pAdd, pIx4, pIx, pDGet, dctAt, dat, look, tgName, forgets, retv, gCall, T.able, T.view, List.getElem?_cons_zero, List.getElem?_cons_succ, List.set_cons_zero, List.set_cons_succ, R.bind_ok, R.bindO_ok, List.length_cons, List.length_nil, dats, trees, lsd, fin, ables_map, views_map', ables_nil, views_nil, ables_cons, views_cons, filter_true', atI_c0, atI_c1, atI_c2, atI_nil, sz_0, sz_1, sz_2, sz_3, sz_4, sz_5, sz_6, sz_7, sz_8, sz_9, sz_10, sz_11, sz_12, sz_13, sz_14, sz_15, e, ea]
/-! ### alike -/
mutual
def alk : D → D → Bool
  | told, .tup ys => match told with
    | .tup xs => decide (xs.length = ys.length) && alks xs ys
    | _ => false
  | told, .non => match told with
    | .non => true
    | _ => false
  | told, .bl b => match told with
    | .bl c => c == b
    | _ => false
  | told, .int i => match told with
    | .int j => j == i
    | _ => false
  | told, .str x => match told with
    | .str y => y == x
    | _ => false
  | _, .lst _ => false
  | _, .fl _ => false
  | _, .obj _ => false
  | _, .fn _ => false
def alks : List D → List D → Bool
  | x :: xs, y :: ys => alk x y && alks xs ys
  | _, _ => true
end
theorem alks_ix : ∀ (xs ys : List D), xs.length = ys.length → alks xs ys = (List.range ys.length).all fun k => alk (xs.getD k .non) (ys.getD k .non)
  | [], [], _ => rfl
  | x :: xs, y :: ys, h => by
    rw [alks, alks_ix xs ys (Nat.succ.inj h), List.length_cons, List.range_succ_eq_map, List.all_cons, List.all_map]
    rfl
  | [], _ :: _, h => nomatch h
  | _ :: _, [], h => nomatch h
def m_alike (j : Nat) (F : Fns) : GS := (sSeq (sIf (gTru (gIsi "tuple" (gVar 1))) (sSeq (sIf (gOrT (gNotT (gTru (gIsi "tuple" (gVar 0)))) (gB (gOp pNe (gCB bLen (aCons (gVar 0) aNil)) (gCB bLen (aCons (gVar 1) aNil))))) (sRet (gC (.bl false))) sNext)
  (sRet (gOp pEq (gComp [2] (iRange1 (aCons (gCB bLen (aCons (gVar 1) aNil)) aNil)) (tgName 2) (gNotT (gTru (gCall (F j) (aCons (gFz (gOp pIx4 (gVar 0) (gVar 2))) (aCons (gFz (gOp pIx4 (gVar 1) (gVar 2))) aNil))))) (gVar 2)) (gLst aNil)))) sNext)
  (sSeq (sIf (gB (gOp pIsN (gVar 1) (gC .non))) (sRet (gOp pIsN (gVar 0) (gC .non))) sNext)
  (sSeq (sIf (gTru (gIsi "bool" (gVar 1))) (sRet (gAnd (gIsi "bool" (gVar 0)) (gOp pEq (gVar 0) (gVar 1)))) sNext)
  (sSeq (sIf (gTru (gIsi "int" (gVar 1))) (sRet (gAnd (gIsi "int" (gVar 0)) (gAnd (gNot (gIsi "bool" (gVar 0))) (gOp pEq (gVar 0) (gVar 1))))) sNext)
  (sRet (gAnd (gIsi "str" (gVar 0)) (gOp pEq (gVar 0) (gVar 1))))))))
theorem alike_sc {j : Nat} {F : Fns} {told due : D} {ob : List T} (h1 : okD 64 told = true) (h2 : okD 64 due = true) (h3 : ∀ ys, due ≠ .tup ys) :
    m_alike j F ⟨[.fz told, .fz due, .hole], ob⟩ = .ret (.fz (.bl (alk told due))) ⟨[.fz told, .fz due, .hole], ob⟩ := by
  have E : ∀ {s : S} {a b : D}, okD 64 a = true → okD 64 b = true → pEq s (.tr (.fz a)) (.tr (.fz b)) = .ok (.tr (.fz (.bl (eqD a b)))) s := pEq_fz
  cases due <;> (try (exfalso; exact h3 _ rfl)) <;> (try (simp [okD] at h2; done)) <;> cases told <;> (try (simp [okD] at h1; done)) <;>
    (simp only [m_alike, sSeq, sIf, sAsg, sAsgT, sAug, sPar, sFor, sForget, sRet, sRetN, sAppend, sExtend, sNext, sBrk, sCont, sDrop, appv, isLst, gB, bv, gNp, npv, gOp, gUn, gVar, gC, gCB, gFz, fzv, gTru, tru, gAndT, gOrT, gNotT, gAnd, gOr, gNot, gIf, PL.gTup, gLst, gIsi, gIsi2, tyN_non, tyN_bl, tyN_int, tyN_str, tyN_tup, tyN_lst, tyN_tl, gSl, oNone, oSome, intv, aNil, aCons, iRange1, iRange2, rng1, rng2, iOf, itv, bLen, bAbs, bInt, bTuple, bList, lenT, pI, pAdd, pIx4, pIx, pDGet, dctAt, dat, look, tgName, forgets, retv, gCall, T.able, T.view, List.getElem?_cons_zero, List.getElem?_cons_succ, List.set_cons_zero, List.set_cons_succ, R.bind_ok, R.bindO_ok, List.length_cons, List.length_nil, dats, trees, lsd, fin, ables_map, views_map', ables_nil, views_nil, ables_cons, views_cons, filter_true', atI_c0, atI_c1, atI_c2, atI_nil, sz_0, sz_1, sz_2, sz_3, sz_4, sz_5, sz_6, sz_7, sz_8, sz_9, sz_10, sz_11, sz_12, sz_13, sz_14, sz_15, Option.bind_some, kit_NoneType_tuple, kit_NoneType_bool, kit_NoneType_int, kit_NoneType_str, kit_NoneType_list, kit_NoneType_dict, kit_bool_tuple, kit_bool_bool, kit_bool_int, kit_bool_str, kit_bool_list, kit_bool_dict, kit_int_tuple, kit_int_bool, kit_int_int, kit_int_str, kit_int_list, kit_int_dict, kit_str_tuple, kit_str_bool, kit_str_int, kit_str_str, kit_str_list, kit_str_dict, kit_tuple_tuple, kit_tuple_bool, kit_tuple_int, kit_tuple_str, kit_tuple_list, kit_tuple_dict, kit_list_tuple, kit_list_bool, kit_list_int, kit_list_str, kit_list_list, kit_list_dict, pIsN, isNon, Bool.false_eq_true, if_false, if_true, Bool.not_false, Bool.not_true, alk, E h1 h2, eqD])
theorem okD_tup {n : Nat} {ds : List D} (h : okD n (.tup ds) = true) : ∃ m, n = m + 1 ∧ ds.length ≤ 100000 ∧ ∀ d ∈ ds, okD m d = true := by
  rw [okD, Bool.and_eq_true_iff] at h
  cases n with
  | zero => have := h.2; unfold okDs at this; cases this
  | succ m => exact ⟨m, rfl, of_decide_eq_true h.1, okDs_all.mp h.2⟩
theorem okD_lst {n : Nat} {ds : List D} (h : okD n (.lst ds) = true) : ∃ m, n = m + 1 ∧ ds.length ≤ 100000 ∧ ∀ d ∈ ds, okD m d = true := by
  rw [okD, Bool.and_eq_true_iff] at h
  cases n with
  | zero => have := h.2; unfold okDs at this; cases this
  | succ m => exact ⟨m, rfl, of_decide_eq_true h.1, okDs_all.mp h.2⟩
theorem okD_tup_mk {n : Nat} {ds : List D} (hl : ds.length ≤ 100000) (h : ∀ d ∈ ds, okD n d = true) : okD (n + 1) (.tup ds) = true := by
  rw [okD]
  exact Bool.and_eq_true_iff.mpr ⟨decide_eq_true hl, okDs_all.mpr h⟩
theorem okD_lst_mk {n : Nat} {ds : List D} (hl : ds.length ≤ 100000) (h : ∀ d ∈ ds, okD n d = true) : okD (n + 1) (.lst ds) = true := by
  rw [okD]
  exact Bool.and_eq_true_iff.mpr ⟨decide_eq_true hl, okDs_all.mpr h⟩
theorem eqDs_nil (xs : List D) : eqDs xs [] = xs.isEmpty := by cases xs <;> rfl
theorem rangeD0 (n : Nat) : rangeD 0 n = (List.range n).map fun i : Nat => D.int i := by
  unfold rangeD
  exact List.map_congr_left fun i _ => by simp
theorem filter_empty {α : Type} (p : α → Bool) (l : List α) : (l.filter fun x => !p x).isEmpty = l.all p := by
  induction l with
  | nil => rfl
  | cons a l ih =>
    rw [List.filter_cons, List.all_cons]
    cases h : p a
    · simp
    · simpa using ih
theorem alike_ok {j : Nat} {G : Nat → Fns} (hG : ∀ k, G (k + 1) j = fnD 1 (m_alike j (G k))) : ∀ (n k : Nat) (told due : D) (ob : List T), n < k → okD n due = true → okD 64 due = true → okD 64 told = true →
    (G k j) [told, due] ob = .ok (.fz (.bl (alk told due))) ob := by
  intro n
  induction n with
  | zero =>
    intro k told due ob hk h0 h2 h1
    cases k with
    | zero => omega
    | succ k =>
      have e := alike_sc (j := j) (F := G k) (ob := ob) h1 h2 fun ys e => by
        subst e
        obtain ⟨m, hm, _, _⟩ := okD_tup h0
        omega
      rw [hG]
      have hl : [told, due].map T.fz ++ List.replicate 1 T.hole = [.fz told, .fz due, .hole] := rfl
      unfold fnD
      rw [hl, e]
  | succ n ih =>
    intro k told due ob hk h0 h2 h1
    cases k with
    | zero => omega
    | succ k =>
      by_cases ht : ∃ ys, due = .tup ys
      · obtain ⟨ys, rfl⟩ := ht
        obtain ⟨m, hm, hsz, hys⟩ := okD_tup h0
        cases hm
        have hl : [told, .tup ys].map T.fz ++ List.replicate 1 T.hole = [.fz told, .fz (.tup ys), .hole] := rfl
        have goal : m_alike j (G k) ⟨[.fz told, .fz (.tup ys), .hole], ob⟩ = .ret (.fz (.bl (alk told (.tup ys)))) ⟨[.fz told, .fz (.tup ys), .hole], ob⟩ := by
          by_cases hx : ∃ xs, told = .tup xs ∧ xs.length = ys.length
          · obtain ⟨xs, rfl, hlen⟩ := hx
            obtain ⟨mx, hmx, _, hxs⟩ := okD_tup h1
            obtain ⟨my, hmy, _, hys64⟩ := okD_tup h2
            have len : (ys.length : Int) = ((ys.length : Nat) : Int) := rfl
            have hsm : small62 (ys.length : Int) = true := small_nat hsz
            have c := compGo_pure (own := [2]) (tg := tgName 2) (gt := gNotT (gTru (gCall (G k j) (aCons (gFz (gOp pIx4 (gVar 0) (gVar 2))) (aCons (gFz (gOp pIx4 (gVar 1) (gVar 2))) aNil))))) (ge := gVar 2) (s := ⟨[.fz (.tup xs), .fz (.tup ys), .hole], ob⟩)
              (fun d => match d with
                | .int i => !alk (xs.getD i.toNat .non) (ys.getD i.toNat .non)
                | _ => false) T.fz (rangeD 0 ys.length) [] (fun d hd => by
                rw [rangeD0] at hd
                obtain ⟨i, hi, rfl⟩ := List.mem_map.mp hd
                have hi : i < ys.length := List.mem_range.mp hi
                have hi' : i < xs.length := by omega
                have a1 := atI_at hi
                have a2 := atI_at hi'
                have e := ih k xs[i] ys[i] ob (by omega) (hys _ (List.getElem_mem _)) (by have := hys64 ys[i] (List.getElem_mem _); exact okD_mono _ _ _ (by omega) this) (by have := hxs xs[i] (List.getElem_mem _); exact okD_mono _ _ _ (by omega) this)
                refine ⟨⟨[.fz (.tup xs), .fz (.tup ys), .fz (.int i)], ob⟩, rfl, ?_, fun _ => rfl, rfl⟩
                simp [sSeq, sIf, sAsg, sAsgT, sAug, sPar, sFor, sForget, sRet, sRetN, sAppend, sExtend, sNext, sBrk, sCont, sDrop, appv, isLst, gB, bv, gNp, npv, gOp, gUn, gVar, gC, gCB, gFz, fzv, gTru, tru, gAndT, gOrT, gNotT, gAnd, gOr, gNot, gIf, PL.gTup, gLst, gIsi, gIsi2, tyN_non, tyN_bl, tyN_int, tyN_str, tyN_tup, tyN_lst, tyN_tl, gSl, oNone, oSome, intv, aNil, aCons, iRange1, iRange2, rng1, rng2, iOf, itv, bLen, bAbs, bInt, bTuple, bList, lenT, pI, pAdd, pIx4, pIx, pDGet, dctAt, dat, look, tgName, forgets, retv, gCall, T.able, T.view, List.getElem?_cons_zero, List.getElem?_cons_succ, List.set_cons_zero, List.set_cons_succ, R.bind_ok, R.bindO_ok, List.length_cons, List.length_nil, dats, trees, lsd, fin, ables_map, views_map', ables_nil, views_nil, ables_cons, views_cons, filter_true', atI_c0, atI_c1, atI_c2, atI_nil, sz_0, sz_1, sz_2, sz_3, sz_4, sz_5, sz_6, sz_7, sz_8, sz_9, sz_10, sz_11, sz_12, sz_13, sz_14, sz_15, a1, a2, e, hi, hi']) (by simp only [List.length_nil, rangeD_len]; show _ ≤ 16777216; omega)
            have hn : ([] : List T) ++ ((rangeD 0 ys.length).filter (fun d => match d with
                | .int i => !alk (xs.getD i.toNat .non) (ys.getD i.toNat .non)
                | _ => false)).map T.fz = ((rangeD 0 ys.length).filter (fun d => match d with
                | .int i => !alk (xs.getD i.toNat .non) (ys.getD i.toNat .non)
                | _ => false)).map T.fz := rfl
            rw [hn] at c
            have f1 : ((rangeD 0 ys.length).filter (fun d => match d with
                | .int i => !alk (xs.getD i.toNat .non) (ys.getD i.toNat .non)
                | _ => false)).isEmpty = alks xs ys := by
              rw [alks_ix xs ys hlen, rangeD0, List.filter_map, List.isEmpty_map]
              exact filter_empty (fun k => alk (xs.getD k .non) (ys.getD k .non)) _
            have okr : okD 64 (.lst ((rangeD 0 ys.length).filter (fun d => match d with
                | .int i => !alk (xs.getD i.toNat .non) (ys.getD i.toNat .non)
                | _ => false))) = true := okD_lst_mk (Nat.le_trans (List.length_filter_le _ _) (by rw [rangeD_len]; exact hsz)) fun d hd => by
              have hd := (List.mem_filter.mp hd).1
              rw [rangeD0] at hd
              obtain ⟨i, _, rfl⟩ := List.mem_map.mp hd
              rfl
            have h0 : 0 ≤ sizeLine := Nat.zero_le _
            have ho : holes [2] ⟨[.fz (.tup xs), .fz (.tup ys), .hole], ob⟩ = true := rfl
            have ee := dEq_ok okr (show okD 64 (.lst []) = true from rfl)
            have el : rd ⟨[.fz (.tup xs), .fz (.tup ys), .hole], ob⟩ (.tr (.lst [])) = some (.lst []) := rfl
            have hne : eqD (.int xs.length) (.int ys.length) = true := by simp [eqD, hlen]
            have nn := pNe_fz (s := ⟨[.fz (.tup xs), .fz (.tup ys), .hole], ob⟩) (a := .int xs.length) (b := .int ys.length) rfl rfl
            simp only [eqD, eqDs_nil] at ee
            rw [f1] at ee
            generalize ((rangeD 0 ys.length).filter (fun d => match d with
              | .int i => !alk (xs.getD i.toNat .non) (ys.getD i.toNat .non)
              | _ => false)) = ks at c ee
            simp [m_alike, sSeq, sIf, sAsg, sAsgT, sAug, sPar, sFor, sForget, sRet, sRetN, sAppend, sExtend, sNext, sBrk, sCont, sDrop, appv, isLst, gB, bv, gNp, npv, gOp, gUn, gVar, gC, gCB, gFz, fzv, gTru, tru, gAndT, gOrT, gNotT, gAnd, gOr, gNot, gIf, PL.gTup, gLst, gIsi, gIsi2, tyN_non, tyN_bl, tyN_int, tyN_str, tyN_tup, tyN_lst, tyN_tl, gSl, oNone, oSome, intv, aNil, aCons, iRange1, iRange2, rng1, rng2, iOf, itv, bLen, bAbs, bInt, bTuple, bList, lenT, pI, pAdd, pIx4, pIx, pDGet, dctAt, dat, look, tgName, forgets, retv, gCall, T.able, T.view, List.getElem?_cons_zero, List.getElem?_cons_succ, List.set_cons_zero, List.set_cons_succ, R.bind_ok, R.bindO_ok, List.length_cons, List.length_nil, dats, trees, lsd, fin, ables_map, views_map', ables_nil, views_nil, ables_cons, views_cons, filter_true', atI_c0, atI_c1, atI_c2, atI_nil, sz_0, sz_1, sz_2, sz_3, sz_4, sz_5, sz_6, sz_7, sz_8, sz_9, sz_10, sz_11, sz_12, sz_13, sz_14, sz_15, Option.bind_some, kit_NoneType_tuple, kit_NoneType_bool, kit_NoneType_int, kit_NoneType_str, kit_NoneType_list, kit_NoneType_dict, kit_bool_tuple, kit_bool_bool, kit_bool_int, kit_bool_str, kit_bool_list, kit_bool_dict, kit_int_tuple, kit_int_bool, kit_int_int, kit_int_str, kit_int_list, kit_int_dict, kit_str_tuple, kit_str_bool, kit_str_int, kit_str_str, kit_str_list, kit_str_dict, kit_tuple_tuple, kit_tuple_bool, kit_tuple_int, kit_tuple_str, kit_tuple_list, kit_tuple_dict, kit_list_tuple, kit_list_bool, kit_list_int, kit_list_str, kit_list_list, kit_list_dict, pNe_int, hsm, gComp, ho, c, pEq, rd_tlst, el, ee, h0, alk, hlen]
          · have hn : alk told (.tup ys) = false := by
              cases told <;> try rfl
              rename_i xs
              have : ¬ xs.length = ys.length := fun e => hx ⟨xs, rfl, e⟩
              simp [alk, this]
            rw [hn]
            cases told <;> (try (simp [okD] at h1; done)) <;> (try (simp [m_alike, sSeq, sIf, sAsg, sAsgT, sAug, sPar, sFor, sForget, sRet, sRetN, sAppend, sExtend, sNext, sBrk, sCont, sDrop, appv, isLst, gB, bv, gNp, npv, gOp, gUn, gVar, gC, gCB, gFz, fzv, gTru, tru, gAndT, gOrT, gNotT, gAnd, gOr, gNot, gIf, PL.gTup, gLst, gIsi, gIsi2, tyN_non, tyN_bl, tyN_int, tyN_str, tyN_tup, tyN_lst, tyN_tl, gSl, oNone, oSome, intv, aNil, aCons, iRange1, iRange2, rng1, rng2, iOf, itv, bLen, bAbs, bInt, bTuple, bList, lenT, pI, pAdd, pIx4, pIx, pDGet, dctAt, dat, look, tgName, forgets, retv, gCall, T.able, T.view, List.getElem?_cons_zero, List.getElem?_cons_succ, List.set_cons_zero, List.set_cons_succ, R.bind_ok, R.bindO_ok, List.length_cons, List.length_nil, dats, trees, lsd, fin, ables_map, views_map', ables_nil, views_nil, ables_cons, views_cons, filter_true', atI_c0, atI_c1, atI_c2, atI_nil, sz_0, sz_1, sz_2, sz_3, sz_4, sz_5, sz_6, sz_7, sz_8, sz_9, sz_10, sz_11, sz_12, sz_13, sz_14, sz_15, Option.bind_some, kit_NoneType_tuple, kit_NoneType_bool, kit_NoneType_int, kit_NoneType_str, kit_NoneType_list, kit_NoneType_dict, kit_bool_tuple, kit_bool_bool, kit_bool_int, kit_bool_str, kit_bool_list, kit_bool_dict, kit_int_tuple, kit_int_bool, kit_int_int, kit_int_str, kit_int_list, kit_int_dict, kit_str_tuple, kit_str_bool, kit_str_int, kit_str_str, kit_str_list, kit_str_dict, kit_tuple_tuple, kit_tuple_bool, kit_tuple_int, kit_tuple_str, kit_tuple_list, kit_tuple_dict, kit_list_tuple, kit_list_bool, kit_list_int, kit_list_str, kit_list_list, kit_list_dict]; done))
            rename_i xs
            have hl3 : ¬ ((xs.length : Int) = (ys.length : Int)) := fun e => hx ⟨xs, rfl, by omega⟩
            simp [m_alike, sSeq, sIf, sAsg, sAsgT, sAug, sPar, sFor, sForget, sRet, sRetN, sAppend, sExtend, sNext, sBrk, sCont, sDrop, appv, isLst, gB, bv, gNp, npv, gOp, gUn, gVar, gC, gCB, gFz, fzv, gTru, tru, gAndT, gOrT, gNotT, gAnd, gOr, gNot, gIf, PL.gTup, gLst, gIsi, gIsi2, tyN_non, tyN_bl, tyN_int, tyN_str, tyN_tup, tyN_lst, tyN_tl, gSl, oNone, oSome, intv, aNil, aCons, iRange1, iRange2, rng1, rng2, iOf, itv, bLen, bAbs, bInt, bTuple, bList, lenT, pI, pAdd, pIx4, pIx, pDGet, dctAt, dat, look, tgName, forgets, retv, gCall, T.able, T.view, List.getElem?_cons_zero, List.getElem?_cons_succ, List.set_cons_zero, List.set_cons_succ, R.bind_ok, R.bindO_ok, List.length_cons, List.length_nil, dats, trees, lsd, fin, ables_map, views_map', ables_nil, views_nil, ables_cons, views_cons, filter_true', atI_c0, atI_c1, atI_c2, atI_nil, sz_0, sz_1, sz_2, sz_3, sz_4, sz_5, sz_6, sz_7, sz_8, sz_9, sz_10, sz_11, sz_12, sz_13, sz_14, sz_15, Option.bind_some, kit_NoneType_tuple, kit_NoneType_bool, kit_NoneType_int, kit_NoneType_str, kit_NoneType_list, kit_NoneType_dict, kit_bool_tuple, kit_bool_bool, kit_bool_int, kit_bool_str, kit_bool_list, kit_bool_dict, kit_int_tuple, kit_int_bool, kit_int_int, kit_int_str, kit_int_list, kit_int_dict, kit_str_tuple, kit_str_bool, kit_str_int, kit_str_str, kit_str_list, kit_str_dict, kit_tuple_tuple, kit_tuple_bool, kit_tuple_int, kit_tuple_str, kit_tuple_list, kit_tuple_dict, kit_list_tuple, kit_list_bool, kit_list_int, kit_list_str, kit_list_list, kit_list_dict, pNe_int, hl3]
        rw [hG]
        unfold fnD
        rw [hl, goal]
      · have e := alike_sc (j := j) (F := G k) (ob := ob) h1 h2 fun ys e => ht ⟨ys, e⟩
        rw [hG]
        have hl : [told, due].map T.fz ++ List.replicate 1 T.hole = [.fz told, .fz due, .hole] := rfl
        unfold fnD
        rw [hl, e]
/-! ### kinds of data -/
def isStr : D → Bool
  | .str _ => true
  | _ => false
def isTupD : D → Bool
  | .tup _ => true
  | _ => false
def isLstD : D → Bool
  | .lst _ => true
  | _ => false
def isBl : D → Bool
  | .bl _ => true
  | _ => false
def isIntD : D → Bool
  | .bl _ => true
  | .int _ => true
  | _ => false
theorem ty_str {n : Nat} {d : D} (h : okD n d = true) : ((tyN (.fz d)).bind fun n => kitB n "str") = some (isStr d) := by
  cases d <;> (try (simp [okD] at h; done)) <;> simp [tyN_non, tyN_bl, tyN_int, tyN_str, tyN_tup, tyN_lst, kit_NoneType_tuple, kit_NoneType_bool, kit_NoneType_int, kit_NoneType_str, kit_NoneType_list, kit_NoneType_dict, kit_bool_tuple, kit_bool_bool, kit_bool_int, kit_bool_str, kit_bool_list, kit_bool_dict, kit_int_tuple, kit_int_bool, kit_int_int, kit_int_str, kit_int_list, kit_int_dict, kit_str_tuple, kit_str_bool, kit_str_int, kit_str_str, kit_str_list, kit_str_dict, kit_tuple_tuple, kit_tuple_bool, kit_tuple_int, kit_tuple_str, kit_tuple_list, kit_tuple_dict, kit_list_tuple, kit_list_bool, kit_list_int, kit_list_str, kit_list_list, kit_list_dict, Option.bind_some, isStr]
theorem ty_tuple {n : Nat} {d : D} (h : okD n d = true) : ((tyN (.fz d)).bind fun n => kitB n "tuple") = some (isTupD d) := by
  cases d <;> (try (simp [okD] at h; done)) <;> simp [tyN_non, tyN_bl, tyN_int, tyN_str, tyN_tup, tyN_lst, kit_NoneType_tuple, kit_NoneType_bool, kit_NoneType_int, kit_NoneType_str, kit_NoneType_list, kit_NoneType_dict, kit_bool_tuple, kit_bool_bool, kit_bool_int, kit_bool_str, kit_bool_list, kit_bool_dict, kit_int_tuple, kit_int_bool, kit_int_int, kit_int_str, kit_int_list, kit_int_dict, kit_str_tuple, kit_str_bool, kit_str_int, kit_str_str, kit_str_list, kit_str_dict, kit_tuple_tuple, kit_tuple_bool, kit_tuple_int, kit_tuple_str, kit_tuple_list, kit_tuple_dict, kit_list_tuple, kit_list_bool, kit_list_int, kit_list_str, kit_list_list, kit_list_dict, Option.bind_some, isTupD]
theorem ty_list {n : Nat} {d : D} (h : okD n d = true) : ((tyN (.fz d)).bind fun n => kitB n "list") = some (isLstD d) := by
  cases d <;> (try (simp [okD] at h; done)) <;> simp [tyN_non, tyN_bl, tyN_int, tyN_str, tyN_tup, tyN_lst, kit_NoneType_tuple, kit_NoneType_bool, kit_NoneType_int, kit_NoneType_str, kit_NoneType_list, kit_NoneType_dict, kit_bool_tuple, kit_bool_bool, kit_bool_int, kit_bool_str, kit_bool_list, kit_bool_dict, kit_int_tuple, kit_int_bool, kit_int_int, kit_int_str, kit_int_list, kit_int_dict, kit_str_tuple, kit_str_bool, kit_str_int, kit_str_str, kit_str_list, kit_str_dict, kit_tuple_tuple, kit_tuple_bool, kit_tuple_int, kit_tuple_str, kit_tuple_list, kit_tuple_dict, kit_list_tuple, kit_list_bool, kit_list_int, kit_list_str, kit_list_list, kit_list_dict, Option.bind_some, isLstD]
theorem ty_bool {n : Nat} {d : D} (h : okD n d = true) : ((tyN (.fz d)).bind fun n => kitB n "bool") = some (isBl d) := by
  cases d <;> (try (simp [okD] at h; done)) <;> simp [tyN_non, tyN_bl, tyN_int, tyN_str, tyN_tup, tyN_lst, kit_NoneType_tuple, kit_NoneType_bool, kit_NoneType_int, kit_NoneType_str, kit_NoneType_list, kit_NoneType_dict, kit_bool_tuple, kit_bool_bool, kit_bool_int, kit_bool_str, kit_bool_list, kit_bool_dict, kit_int_tuple, kit_int_bool, kit_int_int, kit_int_str, kit_int_list, kit_int_dict, kit_str_tuple, kit_str_bool, kit_str_int, kit_str_str, kit_str_list, kit_str_dict, kit_tuple_tuple, kit_tuple_bool, kit_tuple_int, kit_tuple_str, kit_tuple_list, kit_tuple_dict, kit_list_tuple, kit_list_bool, kit_list_int, kit_list_str, kit_list_list, kit_list_dict, Option.bind_some, isBl]
theorem ty_int {n : Nat} {d : D} (h : okD n d = true) : ((tyN (.fz d)).bind fun n => kitB n "int") = some (isIntD d) := by
  cases d <;> (try (simp [okD] at h; done)) <;> simp [tyN_non, tyN_bl, tyN_int, tyN_str, tyN_tup, tyN_lst, kit_NoneType_tuple, kit_NoneType_bool, kit_NoneType_int, kit_NoneType_str, kit_NoneType_list, kit_NoneType_dict, kit_bool_tuple, kit_bool_bool, kit_bool_int, kit_bool_str, kit_bool_list, kit_bool_dict, kit_int_tuple, kit_int_bool, kit_int_int, kit_int_str, kit_int_list, kit_int_dict, kit_str_tuple, kit_str_bool, kit_str_int, kit_str_str, kit_str_list, kit_str_dict, kit_tuple_tuple, kit_tuple_bool, kit_tuple_int, kit_tuple_str, kit_tuple_list, kit_tuple_dict, kit_list_tuple, kit_list_bool, kit_list_int, kit_list_str, kit_list_list, kit_list_dict, Option.bind_some, isIntD]
end PL
set_option Elab.async false
set_option linter.all false
set_option maxRecDepth 100000
set_option autoImplicit false
namespace PL
open PySem PySem.Spec PyProof.Rows L2
/-! ### texts that are written -/
theorem mapInj {α β : Type} {f : α → β} (hf : ∀ x y, f x = f y → x = y) : ∀ l l' : List α, l.map f = l'.map f → l = l'
  | [], [], _ => rfl
  | x :: l, y :: l', h => by
    rw [List.map_cons, List.map_cons] at h
    injection h with h1 h2
    rw [hf x y h1, mapInj hf l l' h2]
  | [], _ :: _, h => nomatch h
  | _ :: _, [], h => nomatch h
theorem ofS_inj (a b : String) : (Str.ofString a = Str.ofString b) = (a = b) := by
  apply propext
  constructor
  · intro h
    rw [Str.ofString_eq_toList, Str.ofString_eq_toList] at h
    have h1 : a.toList.map Char.toNat = b.toList.map Char.toNat := by
      have := congrArg (fun s : Str => s.cps.toList) h
      simpa using this
    have h2 : a.toList = b.toList := mapInj (fun x y e => Char.ext (UInt32.toNat_inj.mp e)) _ _ h1
    exact String.toList_inj.mp h2
  · intro h; rw [h]
theorem ofS_beq (a b : String) : (Str.ofString a == Str.ofString b) = (a == b) := by
  rw [Bool.eq_iff_iff, beq_iff_eq, beq_iff_eq, ofS_inj]
theorem strOk_lit (s : String) : PyData.strOk (Str.ofString s) = true := by
  rw [Str.ofString_eq_toList]
  simp only [PyData.strOk, List.all_toArray, List.all_map, List.all_eq_true, Function.comp_apply, decide_eq_true_eq]
  intro c _
  have := c.valid
  rcases this with h | ⟨_, h⟩
  · exact Nat.lt_trans h (by decide)
  · exact h
theorem okD_lit (n : Nat) (s : String) : okD n (.str (Str.ofString s)) = true := by rw [okD]; exact strOk_lit s
theorem okD_int (n : Nat) (i : Int) : okD n (.int i) = true := by rw [okD]
theorem okD_non (n : Nat) : okD n .non = true := by rw [okD]
theorem okD_bl (n : Nat) (b : Bool) : okD n (.bl b) = true := by rw [okD]
theorem okD_str (n : Nat) (s : Str) (h : PyData.strOk s = true) : okD n (.str s) = true := by rw [okD]; exact h
theorem okD_nil (n : Nat) : okD (n + 1) (.tup []) = true := okD_tup_mk (by simp) (by intro d h; cases h)
theorem eqD_lit (a b : String) : eqD (.str (Str.ofString a)) (.str (Str.ofString b)) = (a == b) := by simp [eqD, ofS_beq]
theorem pEq_lit {s : S} (a b : String) : pEq s (.tr (.fz (.str (Str.ofString a)))) (.tr (.fz (.str (Str.ofString b)))) = .ok (.tr (.fz (.bl (a == b)))) s := by
  rw [pEq_fz (okD_lit _ _) (okD_lit _ _), eqD_lit]
theorem pNe_lit {s : S} (a b : String) : pNe s (.tr (.fz (.str (Str.ofString a)))) (.tr (.fz (.str (Str.ofString b)))) = .ok (.tr (.fz (.bl (!(a == b))))) s := by
  rw [pNe_fz (okD_lit _ _) (okD_lit _ _), eqD_lit]
theorem okD_strs (n : Nat) (l : List String) (h : l.length ≤ 100000) : okD (n + 1) (.lst (l.map fun a => .str (Str.ofString a))) = true :=
  okD_lst_mk (by simpa using h) fun d hd => by
    obtain ⟨a, _, rfl⟩ := List.mem_map.mp hd
    exact okD_lit _ _
theorem pIn_2 {s : S} (x a b : String) : pIn s (.tr (.fz (.str (Str.ofString x)))) (.tr (.fz (.tup [.str (Str.ofString a), .str (Str.ofString b)]))) = .ok (.tr (.fz (.bl (a == x || b == x)))) s := by
  refine (pIn_tup (d := .str (Str.ofString x)) (ds := [.str (Str.ofString a), .str (Str.ofString b)]) (okD_lit _ _) (okD_strs 63 [a, b] (by simp))).trans ?_
  simp [eqD_lit]
theorem pIn_3 {s : S} (x a b c : String) : pIn s (.tr (.fz (.str (Str.ofString x)))) (.tr (.fz (.tup [.str (Str.ofString a), .str (Str.ofString b), .str (Str.ofString c)]))) = .ok (.tr (.fz (.bl (a == x || (b == x || c == x))))) s := by
  refine (pIn_tup (d := .str (Str.ofString x)) (ds := [.str (Str.ofString a), .str (Str.ofString b), .str (Str.ofString c)]) (okD_lit _ _) (okD_strs 63 [a, b, c] (by simp))).trans ?_
  simp [eqD_lit]
theorem pIn_4 {s : S} (x a b c d : String) : pIn s (.tr (.fz (.str (Str.ofString x)))) (.tr (.fz (.tup [.str (Str.ofString a), .str (Str.ofString b), .str (Str.ofString c), .str (Str.ofString d)]))) = .ok (.tr (.fz (.bl (a == x || (b == x || (c == x || d == x)))))) s := by
  refine (pIn_tup (d := .str (Str.ofString x)) (ds := [.str (Str.ofString a), .str (Str.ofString b), .str (Str.ofString c), .str (Str.ofString d)]) (okD_lit _ _) (okD_strs 63 [a, b, c, d] (by simp))).trans ?_
  simp [eqD_lit]
theorem pNotIn_tup {s : S} {d : D} {ds : List D} (hd : okD 64 d = true) (hs : okD 64 (.lst ds) = true) : pNotIn s (.tr (.fz d)) (.tr (.fz (.tup ds))) = .ok (.tr (.fz (.bl (!(ds.any fun z => eqD z d))))) s := by
  unfold pNotIn inD
  rw [rd_fz, rd_fz]
  simp only [Option.bind_some, dIn_ok hd hs]
theorem pNotIn_3 {s : S} (x a b c : String) : pNotIn s (.tr (.fz (.str (Str.ofString x)))) (.tr (.fz (.tup [.str (Str.ofString a), .str (Str.ofString b), .str (Str.ofString c)]))) = .ok (.tr (.fz (.bl (!(a == x || (b == x || c == x)))))) s := by
  refine (pNotIn_tup (d := .str (Str.ofString x)) (ds := [.str (Str.ofString a), .str (Str.ofString b), .str (Str.ofString c)]) (okD_lit _ _) (okD_strs 63 [a, b, c] (by simp))).trans ?_
  simp [eqD_lit]
theorem pNotIn_4 {s : S} (x a b c d : String) : pNotIn s (.tr (.fz (.str (Str.ofString x)))) (.tr (.fz (.tup [.str (Str.ofString a), .str (Str.ofString b), .str (Str.ofString c), .str (Str.ofString d)]))) = .ok (.tr (.fz (.bl (!(a == x || (b == x || (c == x || d == x))))))) s := by
  refine (pNotIn_tup (d := .str (Str.ofString x)) (ds := [.str (Str.ofString a), .str (Str.ofString b), .str (Str.ofString c), .str (Str.ofString d)]) (okD_lit _ _) (okD_strs 63 [a, b, c, d] (by simp))).trans ?_
  simp [eqD_lit]
/-! ### steps -/
theorem sSeq_next {g h : GS} {s s1 : S} (e : g s = .next s1) : sSeq g h s = h s1 := by unfold sSeq; rw [e]
theorem forGo_cons {tg : GG} {body : GS} {d : D} {ds : List D} {s s1 s2 : S} (e1 : tg d s = some s1) (e2 : body s1 = .next s2) : forGo tg body (d :: ds) s = forGo tg body ds s2 := by
  rw [forGo, e1]
  simp only
  rw [e2]
theorem sz_le {n : Nat} (h : n ≤ 100000) : n ≤ sizeLine := Nat.le_trans h (by decide)
theorem fzs_map' {α : Type} (f : α → D) (l : List α) : fzs (l.map fun x => T.fz (f x)) = some (l.map f) := by
  have := fzs_map (l.map f)
  rw [List.map_map] at this
  exact this
theorem alks_self : ∀ ds : List D, (∀ d ∈ ds, alk d d = true) → alks ds ds = true
  | [], _ => rfl
  | x :: xs, h => by rw [alks, h x (List.mem_cons_self ..), alks_self xs fun d hd => h d (List.mem_cons_of_mem _ hd)]; rfl
theorem alk_tup (ds : List D) (h : ∀ d ∈ ds, alk d d = true) : alk (.tup ds) (.tup ds) = true := by simp [alk, alks_self ds h]
theorem eqDs_self : ∀ ds : List D, (∀ d ∈ ds, eqD d d = true) → eqDs ds ds = true
  | [], _ => rfl
  | x :: xs, h => by rw [eqDs, h x (List.mem_cons_self ..), eqDs_self xs fun d hd => h d (List.mem_cons_of_mem _ hd)]; rfl
theorem any_filter {α : Type} (p : α → Bool) (l : List α) : l.any p = !(l.filter p).isEmpty := by
  induction l with
  | nil => rfl
  | cons a l ih =>
    rw [List.filter_cons, List.any_cons]
    cases h : p a
    · simpa using ih
    · simp
theorem cutD_take {α : Type} (xs : List α) (k : Nat) : PL.cutD xs none (some (k : Int)) = xs.take k := by
  unfold PL.cutD
  rw [HT.sIx_none, HT.sIx_nat, List.drop_zero, Nat.sub_zero, ← List.take_eq_take_min]
theorem cutD_drop {α : Type} (xs : List α) (k : Nat) : PL.cutD xs (some (k : Int)) none = xs.drop k := by
  unfold PL.cutD
  rw [HT.sIx_none, HT.sIx_nat]
  by_cases h : k ≤ xs.length
  · rw [Nat.min_eq_left h]
    exact List.take_of_length_le (by rw [List.length_drop]; omega)
  · rw [Nat.min_eq_right (by omega), Nat.sub_self, List.take_zero, List.drop_eq_nil_of_le (by omega)]
end PL
set_option Elab.async false
set_option linter.all false
set_option maxRecDepth 100000
set_option autoImplicit false
namespace L_k62
open PySem PySem.Spec PyProof.Rows L2 PL
def top (i : Nat) : Stmt := PySem.Challenge.pw_backlook_k62_programs_that_are_undone.main.body.getD i (.Pass ⟨0, 0, 0, 0⟩)
abbrev s_sum_of : Stmt := top 1
def n_sum_of : List Str := ["a", "b"]
def p_sum_of : List Str := ["a", "b"]
theorem sc_sum_of : FnScope n_sum_of p_sum_of (defScope s_sum_of) := ⟨rfl, rfl, rfl, by decide +kernel, rfl, by decide +kernel, by decide +kernel⟩
abbrev s_pair_of : Stmt := top 2
def n_pair_of : List Str := ["a", "b"]
def p_pair_of : List Str := ["a", "b"]
theorem sc_pair_of : FnScope n_pair_of p_pair_of (defScope s_pair_of) := ⟨rfl, rfl, rfl, by decide +kernel, rfl, by decide +kernel, by decide +kernel⟩
abbrev s_plain_type : Stmt := top 3
def n_plain_type : List Str := ["program", "word", "_", "a", "b", "c", "made"]
def p_plain_type : List Str := ["program"]
theorem sc_plain_type : FnScope n_plain_type p_plain_type (defScope s_plain_type) := ⟨rfl, rfl, rfl, by decide +kernel, rfl, by decide +kernel, by decide +kernel⟩
abbrev s_type_of : Stmt := top 4
def n_type_of : List Str := ["program", "word", "found", "one", "other", "made"]
def p_type_of : List Str := ["program"]
theorem sc_type_of : FnScope n_type_of p_type_of (defScope s_type_of) := ⟨rfl, rfl, rfl, by decide +kernel, rfl, by decide +kernel, by decide +kernel⟩
abbrev s_turned_sum : Stmt := top 5
def n_turned_sum : List Str := ["value"]
def p_turned_sum : List Str := ["value"]
theorem sc_turned_sum : FnScope n_turned_sum p_turned_sum (defScope s_turned_sum) := ⟨rfl, rfl, rfl, by decide +kernel, rfl, by decide +kernel, by decide +kernel⟩
abbrev s_done : Stmt := top 6
def n_done : List Str := ["program", "value", "word"]
def p_done : List Str := ["program", "value"]
theorem sc_done : FnScope n_done p_done (defScope s_done) := ⟨rfl, rfl, rfl, by decide +kernel, rfl, by decide +kernel, by decide +kernel⟩
abbrev s_back : Stmt := top 7
def n_back : List Str := ["program", "value", "word"]
def p_back : List Str := ["program", "value"]
theorem sc_back : FnScope n_back p_back (defScope s_back) := ⟨rfl, rfl, rfl, by decide +kernel, rfl, by decide +kernel, by decide +kernel⟩
abbrev s_undone : Stmt := top 8
def n_undone : List Str := ["program", "word"]
def p_undone : List Str := ["program"]
theorem sc_undone : FnScope n_undone p_undone (defScope s_undone) := ⟨rfl, rfl, rfl, by decide +kernel, rfl, by decide +kernel, by decide +kernel⟩
abbrev s_without_undo : Stmt := top 9
def n_without_undo : List Str := ["program", "word"]
def p_without_undo : List Str := ["program"]
theorem sc_without_undo : FnScope n_without_undo p_without_undo (defScope s_without_undo) := ⟨rfl, rfl, rfl, by decide +kernel, rfl, by decide +kernel, by decide +kernel⟩
abbrev s_law_draws : Stmt := top 11
def n_law_draws : List Str := ["script", "many", "draws", "mixed", "k", "cell", "rest", "turn"]
def p_law_draws : List Str := ["script", "many"]
theorem sc_law_draws : FnScope n_law_draws p_law_draws (defScope s_law_draws) := ⟨rfl, rfl, rfl, by decide +kernel, rfl, by decide +kernel, by decide +kernel⟩
abbrev s_law_next : Stmt := top 12
def n_law_next : List Str := ["w", "many"]
def p_law_next : List Str := ["w", "many"]
theorem sc_law_next : FnScope n_law_next p_law_next (defScope s_law_next) := ⟨rfl, rfl, rfl, by decide +kernel, rfl, by decide +kernel, by decide +kernel⟩
abbrev s_law_pick : Stmt := top 13
def n_law_pick : List Str := ["w", "rows"]
def p_law_pick : List Str := ["w", "rows"]
theorem sc_law_pick : FnScope n_law_pick p_law_pick (defScope s_law_pick) := ⟨rfl, rfl, rfl, by decide +kernel, rfl, by decide +kernel, by decide +kernel⟩
abbrev s_law_alike : Stmt := top 14
def n_law_alike : List Str := ["told", "due", "k"]
def p_law_alike : List Str := ["told", "due"]
theorem sc_law_alike : FnScope n_law_alike p_law_alike (defScope s_law_alike) := ⟨rfl, rfl, rfl, by decide +kernel, rfl, by decide +kernel, by decide +kernel⟩
abbrev s_law_type : Stmt := top 15
def n_law_type : List Str := ["w", "depth", "one"]
def p_law_type : List Str := ["w", "depth"]
theorem sc_law_type : FnScope n_law_type p_law_type (defScope s_law_type) := ⟨rfl, rfl, rfl, by decide +kernel, rfl, by decide +kernel, by decide +kernel⟩
abbrev s_law_values : Stmt := top 16
def n_law_values : List Str := ["a", "found", "x", "y"]
def p_law_values : List Str := ["a"]
theorem sc_law_values : FnScope n_law_values p_law_values (defScope s_law_values) := ⟨rfl, rfl, rfl, by decide +kernel, rfl, by decide +kernel, by decide +kernel⟩
abbrev s_law_program : Stmt := top 17
def n_law_program : List Str := ["w", "a", "depth", "able", "kind", "one"]
def p_law_program : List Str := ["w", "a", "depth"]
theorem sc_law_program : FnScope n_law_program p_law_program (defScope s_law_program) := ⟨rfl, rfl, rfl, by decide +kernel, rfl, by decide +kernel, by decide +kernel⟩
abbrev s_law_types : Stmt := top 18
def n_law_types : List Str := ["program", "word", "found", "one", "other", "made", "a", "b", "c"]
def p_law_types : List Str := ["program"]
theorem sc_law_types : FnScope n_law_types p_law_types (defScope s_law_types) := ⟨rfl, rfl, rfl, by decide +kernel, rfl, by decide +kernel, by decide +kernel⟩
abbrev s_law_done : Stmt := top 19
def n_law_done : List Str := ["program", "value", "word", "x"]
def p_law_done : List Str := ["program", "value"]
theorem sc_law_done : FnScope n_law_done p_law_done (defScope s_law_done) := ⟨rfl, rfl, rfl, by decide +kernel, rfl, by decide +kernel, by decide +kernel⟩
abbrev s_law_is_plain : Stmt := top 20
def n_law_is_plain : List Str := ["program"]
def p_law_is_plain : List Str := ["program"]
theorem sc_law_is_plain : FnScope n_law_is_plain p_law_is_plain (defScope s_law_is_plain) := ⟨rfl, rfl, rfl, by decide +kernel, rfl, by decide +kernel, by decide +kernel⟩
abbrev s_law_is_program : Stmt := top 21
def n_law_is_program : List Str := ["thing", "many", "part"]
def p_law_is_program : List Str := ["thing"]
theorem sc_law_is_program : FnScope n_law_is_program p_law_is_program (defScope s_law_is_program) := ⟨rfl, rfl, rfl, by decide +kernel, rfl, by decide +kernel, by decide +kernel⟩
abbrev s_law : Stmt := top 22
def n_law : List Str := ["script", "w", "turn", "a", "program", "types", "back_v", "value", "wrong", "due"]
def p_law : List Str := ["script"]
theorem sc_law : FnScope n_law p_law (defScope s_law) := ⟨rfl, rfl, rfl, by decide +kernel, rfl, by decide +kernel, by decide +kernel⟩
def free : List Str := ["range", "len", "abs", "int", "isinstance", "tuple", "bool", "str"]
def infos : List FI := [⟨"sum_of", p_sum_of⟩, ⟨"pair_of", p_pair_of⟩, ⟨"plain_type", p_plain_type⟩, ⟨"type_of", p_type_of⟩, ⟨"turned_sum", p_turned_sum⟩, ⟨"done", p_done⟩, ⟨"back", p_back⟩, ⟨"undone", p_undone⟩, ⟨"without_undo", p_without_undo⟩, ⟨"_law_draws", p_law_draws⟩, ⟨"_law_next", p_law_next⟩, ⟨"_law_pick", p_law_pick⟩, ⟨"_law_alike", p_law_alike⟩, ⟨"_law_type", p_law_type⟩, ⟨"_law_values", p_law_values⟩, ⟨"_law_program", p_law_program⟩, ⟨"_law_types", p_law_types⟩, ⟨"_law_done", p_law_done⟩, ⟨"_law_is_plain", p_law_is_plain⟩, ⟨"_law_is_program", p_law_is_program⟩, ⟨"law", p_law⟩]
def m_sum_of (F : Fns) : GS := (sRet (gTup (aCons (gC (.str "sum")) (aCons (gFz (gVar 0)) (aCons (gFz (gVar 1)) aNil)))))
def m_pair_of (F : Fns) : GS := (sRet (gTup (aCons (gC (.str "pair")) (aCons (gFz (gVar 0)) (aCons (gFz (gVar 1)) aNil)))))
def m_plain_type (F : Fns) : GS := (sSeq (sAsg 1 (gOp pIx4 (gVar 0) (gC (.int 0))))
  (sSeq (sIf (gB (gOp pEq (gVar 1) (gC (.str "same")))) (sRet (gTup (aCons (gFz (gOp pIx4 (gVar 0) (gC (.int 1)))) (aCons (gFz (gOp pIx4 (gVar 0) (gC (.int 1)))) aNil)))) sNext)
  (sSeq (sIf (gB (gOp pEq (gVar 1) (gC (.str "drop")))) (sRet (gTup (aCons (gFz (gCall (F 1) (aCons (gFz (gTup (aCons (gC (.str "one")) aNil))) (aCons (gFz (gOp pIx4 (gVar 0) (gC (.int 1)))) aNil)))) (aCons (gFz (gOp pIx4 (gVar 0) (gC (.int 1)))) aNil)))) sNext)
  (sSeq (sIf (gB (gOp pEq (gVar 1) (gC (.str "turn sum")))) (sRet (gTup (aCons (gFz (gCall (F 0) (aCons (gFz (gOp pIx4 (gVar 0) (gC (.int 1)))) (aCons (gFz (gOp pIx4 (gVar 0) (gC (.int 2)))) aNil)))) (aCons (gFz (gCall (F 0) (aCons (gFz (gOp pIx4 (gVar 0) (gC (.int 2)))) (aCons (gFz (gOp pIx4 (gVar 0) (gC (.int 1)))) aNil)))) aNil)))) sNext)
  (sSeq (sIf (gB (gOp pEq (gVar 1) (gC (.str "turn pair")))) (sRet (gTup (aCons (gFz (gCall (F 1) (aCons (gFz (gOp pIx4 (gVar 0) (gC (.int 1)))) (aCons (gFz (gOp pIx4 (gVar 0) (gC (.int 2)))) aNil)))) (aCons (gFz (gCall (F 1) (aCons (gFz (gOp pIx4 (gVar 0) (gC (.int 2)))) (aCons (gFz (gOp pIx4 (gVar 0) (gC (.int 1)))) aNil)))) aNil)))) sNext)
  (sSeq (sAsgT (tgTup 4 (tgsCons (tgName 2) (tgsCons (tgName 3) (tgsCons (tgName 4) (tgsCons (tgName 5) tgsNil))))) (gVar 0))
  (sSeq (sIf (gB (gOp pEq (gVar 1) (gC (.str "spread")))) (sRet (gTup (aCons (gFz (gCall (F 1) (aCons (gFz (gCall (F 0) (aCons (gFz (gVar 3)) (aCons (gFz (gVar 4)) aNil)))) (aCons (gFz (gVar 5)) aNil)))) (aCons (gFz (gCall (F 0) (aCons (gFz (gCall (F 1) (aCons (gFz (gVar 3)) (aCons (gFz (gVar 5)) aNil)))) (aCons (gFz (gCall (F 1) (aCons (gFz (gVar 4)) (aCons (gFz (gVar 5)) aNil)))) aNil)))) aNil)))) sNext)
  (sSeq (sAsg 6 (gIf (gB (gOp pEq (gVar 1) (gC (.str "shift sum")))) (gC (.fn "sum_of")) (gC (.fn "pair_of"))))
  (sRet (gTup (aCons (gFz (gCallV 6 infos F (aCons (gFz (gCallV 6 infos F (aCons (gFz (gVar 3)) (aCons (gFz (gVar 4)) aNil)))) (aCons (gFz (gVar 5)) aNil)))) (aCons (gFz (gCallV 6 infos F (aCons (gFz (gVar 3)) (aCons (gFz (gCallV 6 infos F (aCons (gFz (gVar 4)) (aCons (gFz (gVar 5)) aNil)))) aNil)))) aNil))))))))))))
def m_type_of (F : Fns) : GS := (sSeq (sAsg 1 (gOp pIx4 (gVar 0) (gC (.int 0))))
  (sSeq (sIf (gB (gOp pEq (gVar 1) (gC (.str "undo")))) (sSeq (sAsg 2 (gCall (F 3) (aCons (gFz (gOp pIx4 (gVar 0) (gC (.int 1)))) aNil)))
  (sRet (gIf (gB (gOp pIsN (gVar 2) (gC .non))) (gC .non) (gRev (gVar 2))))) sNext)
  (sSeq (sIf (gB (gOp pNotIn (gVar 1) (gTup (aCons (gC (.str "then")) (aCons (gC (.str "either")) (aCons (gC (.str "both")) aNil)))))) (sRet (gCall (F 2) (aCons (gFz (gVar 0)) aNil))) sNext)
  (sSeq (sPar 3 4 (aCons (gNp (gCall (F 3) (aCons (gFz (gOp pIx4 (gVar 0) (gC (.int 1)))) aNil))) (aCons (gNp (gCall (F 3) (aCons (gFz (gOp pIx4 (gVar 0) (gC (.int 2)))) aNil))) aNil)))
  (sSeq (sIf (gOrT (gB (gOp pIsN (gVar 3) (gC .non))) (gB (gOp pIsN (gVar 4) (gC .non)))) (sRet (gC .non)) sNext)
  (sSeq (sIf (gB (gOp pEq (gVar 1) (gC (.str "then")))) (sRet (gIf (gB (gOp pEq (gOp pIx4 (gVar 3) (gC (.int 1))) (gOp pIx4 (gVar 4) (gC (.int 0))))) (gTup (aCons (gFz (gOp pIx4 (gVar 3) (gC (.int 0)))) (aCons (gFz (gOp pIx4 (gVar 4) (gC (.int 1)))) aNil))) (gC .non))) sNext)
  (sSeq (sAsg 5 (gIf (gB (gOp pEq (gVar 1) (gC (.str "either")))) (gC (.fn "sum_of")) (gC (.fn "pair_of"))))
  (sRet (gTup (aCons (gFz (gCallV 5 infos F (aCons (gFz (gOp pIx4 (gVar 3) (gC (.int 0)))) (aCons (gFz (gOp pIx4 (gVar 4) (gC (.int 0)))) aNil)))) (aCons (gFz (gCallV 5 infos F (aCons (gFz (gOp pIx4 (gVar 3) (gC (.int 1)))) (aCons (gFz (gOp pIx4 (gVar 4) (gC (.int 1)))) aNil)))) aNil)))))))))))
def m_turned_sum (F : Fns) : GS := (sRet (gTup (aCons (gFz (gIf (gB (gOp pEq (gOp pIx4 (gVar 0) (gC (.int 0))) (gC (.str "left")))) (gC (.str "right")) (gC (.str "left")))) (aCons (gFz (gOp pIx4 (gVar 0) (gC (.int 1)))) aNil))))
def m_done (F : Fns) : GS := (sSeq (sAsg 2 (gOp pIx4 (gVar 0) (gC (.int 0))))
  (sSeq (sIf (gB (gOp pEq (gVar 2) (gC (.str "same")))) (sRet (gVar 1)) sNext)
  (sSeq (sIf (gB (gOp pEq (gVar 2) (gC (.str "drop")))) (sRet (gOp pIx4 (gVar 1) (gC (.int 1)))) sNext)
  (sSeq (sIf (gB (gOp pEq (gVar 2) (gC (.str "turn sum")))) (sRet (gCall (F 4) (aCons (gFz (gVar 1)) aNil))) sNext)
  (sSeq (sIf (gB (gOp pEq (gVar 2) (gC (.str "turn pair")))) (sRet (gTup (aCons (gFz (gOp pIx4 (gVar 1) (gC (.int 1)))) (aCons (gFz (gOp pIx4 (gVar 1) (gC (.int 0)))) aNil)))) sNext)
  (sSeq (sIf (gB (gOp pEq (gVar 2) (gC (.str "then")))) (sRet (gCall (F 5) (aCons (gFz (gOp pIx4 (gVar 0) (gC (.int 2)))) (aCons (gFz (gCall (F 5) (aCons (gFz (gOp pIx4 (gVar 0) (gC (.int 1)))) (aCons (gFz (gVar 1)) aNil)))) aNil)))) sNext)
  (sSeq (sIf (gB (gOp pEq (gVar 2) (gC (.str "either")))) (sRet (gTup (aCons (gFz (gOp pIx4 (gVar 1) (gC (.int 0)))) (aCons (gFz (gCall (F 5) (aCons (gFz (gIf (gB (gOp pEq (gOp pIx4 (gVar 1) (gC (.int 0))) (gC (.str "left")))) (gOp pIx4 (gVar 0) (gC (.int 1))) (gOp pIx4 (gVar 0) (gC (.int 2))))) (aCons (gFz (gOp pIx4 (gVar 1) (gC (.int 1)))) aNil)))) aNil)))) sNext)
  (sSeq (sIf (gB (gOp pEq (gVar 2) (gC (.str "both")))) (sRet (gTup (aCons (gFz (gCall (F 5) (aCons (gFz (gOp pIx4 (gVar 0) (gC (.int 1)))) (aCons (gFz (gOp pIx4 (gVar 1) (gC (.int 0)))) aNil)))) (aCons (gFz (gCall (F 5) (aCons (gFz (gOp pIx4 (gVar 0) (gC (.int 2)))) (aCons (gFz (gOp pIx4 (gVar 1) (gC (.int 1)))) aNil)))) aNil)))) sNext)
  (sSeq (sIf (gB (gOp pEq (gVar 2) (gC (.str "undo")))) (sRet (gCall (F 6) (aCons (gFz (gOp pIx4 (gVar 0) (gC (.int 1)))) (aCons (gFz (gVar 1)) aNil)))) sNext)
  (sSeq (sIf (gB (gOp pEq (gVar 2) (gC (.str "shift pair")))) (sRet (gTup (aCons (gFz (gOp pIx4 (gOp pIx4 (gVar 1) (gC (.int 0))) (gC (.int 0)))) (aCons (gFz (gTup (aCons (gFz (gOp pIx4 (gOp pIx4 (gVar 1) (gC (.int 0))) (gC (.int 1)))) (aCons (gFz (gOp pIx4 (gVar 1) (gC (.int 1)))) aNil)))) aNil)))) sNext)
  (sSeq (sIf (gB (gOp pEq (gVar 2) (gC (.str "spread")))) (sRet (gTup (aCons (gFz (gOp pIx4 (gOp pIx4 (gVar 1) (gC (.int 0))) (gC (.int 0)))) (aCons (gFz (gTup (aCons (gFz (gOp pIx4 (gOp pIx4 (gVar 1) (gC (.int 0))) (gC (.int 1)))) (aCons (gFz (gOp pIx4 (gVar 1) (gC (.int 1)))) aNil)))) aNil)))) sNext)
  (sSeq (sIf (gB (gOp pEq (gOp pIx4 (gVar 1) (gC (.int 0))) (gC (.str "right")))) (sRet (gTup (aCons (gC (.str "right")) (aCons (gFz (gVar 1)) aNil)))) sNext)
  (sRet (gIf (gB (gOp pEq (gOp pIx4 (gOp pIx4 (gVar 1) (gC (.int 1))) (gC (.int 0))) (gC (.str "left")))) (gOp pIx4 (gVar 1) (gC (.int 1))) (gTup (aCons (gC (.str "right")) (aCons (gFz (gTup (aCons (gC (.str "left")) (aCons (gFz (gOp pIx4 (gOp pIx4 (gVar 1) (gC (.int 1))) (gC (.int 1)))) aNil)))) aNil)))))))))))))))))
def m_back (F : Fns) : GS := (sSeq (sAsg 2 (gOp pIx4 (gVar 0) (gC (.int 0))))
  (sSeq (sIf (gB (gOp pEq (gVar 2) (gC (.str "drop")))) (sRet (gTup (aCons (gFz (gTup aNil)) (aCons (gFz (gVar 1)) aNil)))) sNext)
  (sSeq (sIf (gB (gOp pEq (gVar 2) (gC (.str "then")))) (sRet (gCall (F 6) (aCons (gFz (gOp pIx4 (gVar 0) (gC (.int 1)))) (aCons (gFz (gCall (F 6) (aCons (gFz (gOp pIx4 (gVar 0) (gC (.int 2)))) (aCons (gFz (gVar 1)) aNil)))) aNil)))) sNext)
  (sSeq (sIf (gB (gOp pEq (gVar 2) (gC (.str "either")))) (sRet (gTup (aCons (gFz (gOp pIx4 (gVar 1) (gC (.int 0)))) (aCons (gFz (gCall (F 6) (aCons (gFz (gIf (gB (gOp pEq (gOp pIx4 (gVar 1) (gC (.int 0))) (gC (.str "left")))) (gOp pIx4 (gVar 0) (gC (.int 1))) (gOp pIx4 (gVar 0) (gC (.int 2))))) (aCons (gFz (gOp pIx4 (gVar 1) (gC (.int 1)))) aNil)))) aNil)))) sNext)
  (sSeq (sIf (gB (gOp pEq (gVar 2) (gC (.str "both")))) (sRet (gTup (aCons (gFz (gCall (F 6) (aCons (gFz (gOp pIx4 (gVar 0) (gC (.int 1)))) (aCons (gFz (gOp pIx4 (gVar 1) (gC (.int 0)))) aNil)))) (aCons (gFz (gCall (F 6) (aCons (gFz (gOp pIx4 (gVar 0) (gC (.int 2)))) (aCons (gFz (gOp pIx4 (gVar 1) (gC (.int 1)))) aNil)))) aNil)))) sNext)
  (sSeq (sIf (gB (gOp pEq (gVar 2) (gC (.str "undo")))) (sRet (gCall (F 5) (aCons (gFz (gOp pIx4 (gVar 0) (gC (.int 1)))) (aCons (gFz (gVar 1)) aNil)))) sNext)
  (sSeq (sIf (gB (gOp pEq (gVar 2) (gC (.str "shift pair")))) (sRet (gTup (aCons (gFz (gTup (aCons (gFz (gOp pIx4 (gVar 1) (gC (.int 0)))) (aCons (gFz (gOp pIx4 (gOp pIx4 (gVar 1) (gC (.int 1))) (gC (.int 0)))) aNil)))) (aCons (gFz (gOp pIx4 (gOp pIx4 (gVar 1) (gC (.int 1))) (gC (.int 1)))) aNil)))) sNext)
  (sSeq (sIf (gB (gOp pEq (gVar 2) (gC (.str "spread")))) (sRet (gTup (aCons (gFz (gTup (aCons (gFz (gOp pIx4 (gVar 1) (gC (.int 0)))) (aCons (gFz (gOp pIx4 (gOp pIx4 (gVar 1) (gC (.int 1))) (gC (.int 0)))) aNil)))) (aCons (gFz (gOp pIx4 (gOp pIx4 (gVar 1) (gC (.int 1))) (gC (.int 1)))) aNil)))) sNext)
  (sSeq (sIf (gB (gOp pEq (gVar 2) (gC (.str "shift sum")))) (sSeq (sIf (gB (gOp pEq (gOp pIx4 (gVar 1) (gC (.int 0))) (gC (.str "left")))) (sRet (gTup (aCons (gC (.str "left")) (aCons (gFz (gVar 1)) aNil)))) sNext)
  (sRet (gIf (gB (gOp pEq (gOp pIx4 (gOp pIx4 (gVar 1) (gC (.int 1))) (gC (.int 0))) (gC (.str "right")))) (gOp pIx4 (gVar 1) (gC (.int 1))) (gTup (aCons (gC (.str "left")) (aCons (gFz (gTup (aCons (gC (.str "right")) (aCons (gFz (gOp pIx4 (gOp pIx4 (gVar 1) (gC (.int 1))) (gC (.int 1)))) aNil)))) aNil)))))) sNext)
  (sRet (gCall (F 5) (aCons (gFz (gVar 0)) (aCons (gFz (gVar 1)) aNil)))))))))))))
def m_undone (F : Fns) : GS := (sSeq (sAsg 1 (gOp pIx4 (gVar 0) (gC (.int 0))))
  (sSeq (sIf (gB (gOp pEq (gVar 1) (gC (.str "same")))) (sRet (gVar 0)) sNext)
  (sSeq (sIf (gB (gOp pIn (gVar 1) (gTup (aCons (gC (.str "turn sum")) (aCons (gC (.str "turn pair")) aNil))))) (sRet (gTup (aCons (gFz (gVar 1)) (aCons (gFz (gOp pIx4 (gVar 0) (gC (.int 2)))) (aCons (gFz (gOp pIx4 (gVar 0) (gC (.int 1)))) aNil))))) sNext)
  (sSeq (sIf (gB (gOp pEq (gVar 1) (gC (.str "then")))) (sRet (gTup (aCons (gC (.str "then")) (aCons (gFz (gCall (F 7) (aCons (gFz (gOp pIx4 (gVar 0) (gC (.int 2)))) aNil))) (aCons (gFz (gCall (F 7) (aCons (gFz (gOp pIx4 (gVar 0) (gC (.int 1)))) aNil))) aNil))))) sNext)
  (sSeq (sIf (gB (gOp pIn (gVar 1) (gTup (aCons (gC (.str "either")) (aCons (gC (.str "both")) aNil))))) (sRet (gTup (aCons (gFz (gVar 1)) (aCons (gFz (gCall (F 7) (aCons (gFz (gOp pIx4 (gVar 0) (gC (.int 1)))) aNil))) (aCons (gFz (gCall (F 7) (aCons (gFz (gOp pIx4 (gVar 0) (gC (.int 2)))) aNil))) aNil))))) sNext)
  (sRet (gIf (gB (gOp pEq (gVar 1) (gC (.str "undo")))) (gCall (F 8) (aCons (gFz (gOp pIx4 (gVar 0) (gC (.int 1)))) aNil)) (gTup (aCons (gC (.str "undo")) (aCons (gFz (gVar 0)) aNil))))))))))
def m_without_undo (F : Fns) : GS := (sSeq (sAsg 1 (gOp pIx4 (gVar 0) (gC (.int 0))))
  (sSeq (sIf (gB (gOp pEq (gVar 1) (gC (.str "undo")))) (sRet (gCall (F 7) (aCons (gFz (gOp pIx4 (gVar 0) (gC (.int 1)))) aNil))) sNext)
  (sSeq (sIf (gB (gOp pIn (gVar 1) (gTup (aCons (gC (.str "then")) (aCons (gC (.str "either")) (aCons (gC (.str "both")) aNil)))))) (sRet (gTup (aCons (gFz (gVar 1)) (aCons (gFz (gCall (F 8) (aCons (gFz (gOp pIx4 (gVar 0) (gC (.int 1)))) aNil))) (aCons (gFz (gCall (F 8) (aCons (gFz (gOp pIx4 (gVar 0) (gC (.int 2)))) aNil))) aNil))))) sNext)
  (sRet (gVar 0)))))
def m_law_draws (F : Fns) : GS := (sSeq (sAsg 2 (gLst aNil))
  (sSeq (sAsg 3 (gC (.int 7)))
  (sSeq (sFor (iRange1 (aCons (gCB bLen (aCons (gVar 0) aNil)) aNil)) (tgName 4) (sSeq (sAsg 5 (gCB bAbs (aCons (gCB bInt (aCons (gOp pIx4 (gVar 0) (gVar 4)) aNil)) aNil)))
  (sSeq (sAsg 3 (gOp pMod (gCB bInt (aCons (gOp pAdd (gOp pAdd (gOp pMulI (gVar 3) (gC (.int 48271))) (gOp pMod (gVar 5) (gC (.int 1000003)))) (gVar 4)) aNil)) (gC (.int 65537))))
  (sSeq (sAsg 6 (gC (.int 0)))
  (sSeq (sIf (gB (gOp pGeI (gVar 5) (gOp pPow (gC (.int 10)) (gC (.int 18))))) (sAsg 6 (gVar 5)) (sSeq (sAppend 2 (gOp pMod (gCB bInt (aCons (gVar 5) aNil)) (gC (.int 997))))
  (sAppend 2 (gOp pMod (gOp pMod (gCB bInt (aCons (gOp pAdd (gOp pMulI (gVar 3) (gC (.int 69621))) (gC (.int 5))) aNil)) (gC (.int 65521))) (gC (.int 997))))))
  (sSeq (sFor (iRange1 (aCons (gC (.int 60)) aNil)) (tgName 7) (sSeq (sIf (gB (gOp pGtI (gVar 6) (gC (.int 0)))) (sSeq (sAppend 2 (gOp pMod (gCB bInt (aCons (gVar 6) aNil)) (gC (.int 997))))
  (sAsg 6 (gOp pDiv (gVar 6) (gC (.int 997))))) sNext)
  (sForget [7] sNext)))
  (sForget [4, 5, 6, 7] sNext)))))))
  (sSeq (sFor (iRange1 (aCons (gVar 1) aNil)) (tgName 4) (sSeq (sAsg 3 (gOp pMod (gCB bInt (aCons (gOp pAdd (gOp pAdd (gOp pMulI (gVar 3) (gC (.int 16807))) (gVar 4)) (gC (.int 1))) aNil)) (gC (.int 65537))))
  (sSeq (sAppend 2 (gOp pMod (gCB bInt (aCons (gVar 3) aNil)) (gC (.int 997))))
  (sForget [4] sNext))))
  (sRet (gSl (gVar 2) oNone (oSome (gVar 1))))))))
def m_law_next (F : Fns) : GS := (sSeq (sDAug (gVar 0) (gC (.str "at")) pAddI (gC (.int 1)))
  (sSeq (sIf (gB (gOp pGtI (gOp pIx4 (gVar 0) (gC (.str "at"))) (gCB bLen (aCons (gOp pIx4 (gVar 0) (gC (.str "draws"))) aNil)))) (sRet (gC (.int 0))) sNext)
  (sRet (gOp pMod (gCB bInt (aCons (gOp pIx4 (gOp pIx4 (gVar 0) (gC (.str "draws"))) (gOp pSub (gOp pIx4 (gVar 0) (gC (.str "at"))) (gC (.int 1)))) aNil)) (gVar 1)))))
def m_law_pick (F : Fns) : GS := (sRet (gOp pIx4 (gVar 1) (gCall (F 10) (aCons (gFz (gVar 0)) (aCons (gFz (gCB bLen (aCons (gVar 1) aNil))) aNil)))))
def m_law_alike (F : Fns) : GS := (sSeq (sIf (gTru (gIsi "tuple" (gVar 1))) (sSeq (sIf (gOrT (gNotT (gTru (gIsi "tuple" (gVar 0)))) (gB (gOp pNe (gCB bLen (aCons (gVar 0) aNil)) (gCB bLen (aCons (gVar 1) aNil))))) (sRet (gC (.bl false))) sNext)
  (sRet (gOp pEq (gComp [2] (iRange1 (aCons (gCB bLen (aCons (gVar 1) aNil)) aNil)) (tgName 2) (gNotT (gTru (gCall (F 12) (aCons (gFz (gOp pIx4 (gVar 0) (gVar 2))) (aCons (gFz (gOp pIx4 (gVar 1) (gVar 2))) aNil))))) (gVar 2)) (gLst aNil)))) sNext)
  (sSeq (sIf (gB (gOp pIsN (gVar 1) (gC .non))) (sRet (gOp pIsN (gVar 0) (gC .non))) sNext)
  (sSeq (sIf (gTru (gIsi "bool" (gVar 1))) (sRet (gAnd (gIsi "bool" (gVar 0)) (gOp pEq (gVar 0) (gVar 1)))) sNext)
  (sSeq (sIf (gTru (gIsi "int" (gVar 1))) (sRet (gAnd (gIsi "int" (gVar 0)) (gAnd (gNot (gIsi "bool" (gVar 0))) (gOp pEq (gVar 0) (gVar 1))))) sNext)
  (sRet (gAnd (gIsi "str" (gVar 0)) (gOp pEq (gVar 0) (gVar 1))))))))
def m_law_type (F : Fns) : GS := (sSeq (sIf (gOrT (gB (gOp pEq (gVar 1) (gC (.int 0)))) (gB (gOp pEq (gCall (F 10) (aCons (gFz (gVar 0)) (aCons (gC (.int 3)) aNil))) (gC (.int 0))))) (sRet (gTup (aCons (gC (.str "one")) aNil))) sNext)
  (sSeq (sAsg 2 (gCall (F 13) (aCons (gFz (gVar 0)) (aCons (gFz (gOp pSub (gVar 1) (gC (.int 1)))) aNil))))
  (sRet (gTup (aCons (gFz (gCall (F 11) (aCons (gFz (gVar 0)) (aCons (gFz (gLst (aCons (gC (.str "sum")) (aCons (gC (.str "pair")) (aCons (gC (.str "sum")) aNil))))) aNil)))) (aCons (gFz (gVar 2)) (aCons (gFz (gCall (F 13) (aCons (gFz (gVar 0)) (aCons (gFz (gOp pSub (gVar 1) (gC (.int 1)))) aNil)))) aNil)))))))
def m_law_values (F : Fns) : GS := (sSeq (sIf (gB (gOp pEq (gOp pIx4 (gVar 0) (gC (.int 0))) (gC (.str "one")))) (sRet (gLst (aCons (gNp (gTup aNil)) aNil))) sNext)
  (sSeq (sAsg 1 (gLst aNil))
  (sSeq (sIf (gB (gOp pEq (gOp pIx4 (gVar 0) (gC (.int 0))) (gC (.str "sum")))) (sRet (gOp pAdd (gComp [2] (iOf (gCall (F 14) (aCons (gFz (gOp pIx4 (gVar 0) (gC (.int 1)))) aNil))) (tgName 2) gtYes (gTup (aCons (gC (.str "left")) (aCons (gFz (gVar 2)) aNil)))) (gComp [3] (iOf (gCall (F 14) (aCons (gFz (gOp pIx4 (gVar 0) (gC (.int 2)))) aNil))) (tgName 3) gtYes (gTup (aCons (gC (.str "right")) (aCons (gFz (gVar 3)) aNil)))))) sNext)
  (sSeq (sFor (iOf (gCall (F 14) (aCons (gFz (gOp pIx4 (gVar 0) (gC (.int 1)))) aNil))) (tgName 2) (sSeq (sAsg 1 (gOp pAdd (gVar 1) (gComp [3] (iOf (gCall (F 14) (aCons (gFz (gOp pIx4 (gVar 0) (gC (.int 2)))) aNil))) (tgName 3) gtYes (gTup (aCons (gFz (gVar 2)) (aCons (gFz (gVar 3)) aNil))))))
  (sForget [2] sNext)))
  (sRet (gVar 1))))))
def m_law_program (F : Fns) : GS := (sSeq (sAsg 3 (gLst (aCons (gNp (gTup (aCons (gC (.str "same")) (aCons (gFz (gVar 1)) aNil)))) aNil)))
  (sSeq (sIf (gB (gOp pEq (gOp pIx4 (gVar 1) (gC (.int 0))) (gC (.str "sum")))) (sSeq (sAppend 3 (gTup (aCons (gC (.str "turn sum")) (aCons (gFz (gOp pIx4 (gVar 1) (gC (.int 1)))) (aCons (gFz (gOp pIx4 (gVar 1) (gC (.int 2)))) aNil)))))
  (sSeq (sIf (gB (gOp pEq (gOp pIx4 (gOp pIx4 (gVar 1) (gC (.int 1))) (gC (.int 0))) (gC (.str "sum")))) (sAppend 3 (gTup (aCons (gC (.str "shift sum")) (aCons (gFz (gOp pIx4 (gOp pIx4 (gVar 1) (gC (.int 1))) (gC (.int 1)))) (aCons (gFz (gOp pIx4 (gOp pIx4 (gVar 1) (gC (.int 1))) (gC (.int 2)))) (aCons (gFz (gOp pIx4 (gVar 1) (gC (.int 2)))) aNil)))))) sNext)
  (sSeq (sIf (gB (gOp pEq (gOp pIx4 (gOp pIx4 (gVar 1) (gC (.int 2))) (gC (.int 0))) (gC (.str "sum")))) (sAppend 3 (gTup (aCons (gC (.str "undo")) (aCons (gFz (gTup (aCons (gC (.str "shift sum")) (aCons (gFz (gOp pIx4 (gVar 1) (gC (.int 1)))) (aCons (gFz (gOp pIx4 (gOp pIx4 (gVar 1) (gC (.int 2))) (gC (.int 1)))) (aCons (gFz (gOp pIx4 (gOp pIx4 (gVar 1) (gC (.int 2))) (gC (.int 2)))) aNil)))))) aNil)))) sNext)
  (sIf (gAndT (gB (gOp pEq (gOp pIx4 (gOp pIx4 (gVar 1) (gC (.int 1))) (gC (.int 0))) (gC (.str "pair")))) (gAndT (gB (gOp pEq (gOp pIx4 (gOp pIx4 (gVar 1) (gC (.int 2))) (gC (.int 0))) (gC (.str "pair")))) (gB (gOp pEq (gOp pIx4 (gOp pIx4 (gVar 1) (gC (.int 1))) (gC (.int 2))) (gOp pIx4 (gOp pIx4 (gVar 1) (gC (.int 2))) (gC (.int 2))))))) (sAppend 3 (gTup (aCons (gC (.str "undo")) (aCons (gFz (gTup (aCons (gC (.str "spread")) (aCons (gFz (gOp pIx4 (gOp pIx4 (gVar 1) (gC (.int 1))) (gC (.int 1)))) (aCons (gFz (gOp pIx4 (gOp pIx4 (gVar 1) (gC (.int 2))) (gC (.int 1)))) (aCons (gFz (gOp pIx4 (gOp pIx4 (gVar 1) (gC (.int 1))) (gC (.int 2)))) aNil)))))) aNil)))) sNext)))) sNext)
  (sSeq (sIf (gB (gOp pEq (gOp pIx4 (gVar 1) (gC (.int 0))) (gC (.str "pair")))) (sSeq (sAppend 3 (gTup (aCons (gC (.str "turn pair")) (aCons (gFz (gOp pIx4 (gVar 1) (gC (.int 1)))) (aCons (gFz (gOp pIx4 (gVar 1) (gC (.int 2)))) aNil)))))
  (sSeq (sIf (gB (gOp pEq (gOp pIx4 (gOp pIx4 (gVar 1) (gC (.int 1))) (gC (.int 0))) (gC (.str "pair")))) (sAppend 3 (gTup (aCons (gC (.str "shift pair")) (aCons (gFz (gOp pIx4 (gOp pIx4 (gVar 1) (gC (.int 1))) (gC (.int 1)))) (aCons (gFz (gOp pIx4 (gOp pIx4 (gVar 1) (gC (.int 1))) (gC (.int 2)))) (aCons (gFz (gOp pIx4 (gVar 1) (gC (.int 2)))) aNil)))))) sNext)
  (sSeq (sIf (gB (gOp pEq (gOp pIx4 (gOp pIx4 (gVar 1) (gC (.int 2))) (gC (.int 0))) (gC (.str "pair")))) (sAppend 3 (gTup (aCons (gC (.str "undo")) (aCons (gFz (gTup (aCons (gC (.str "shift pair")) (aCons (gFz (gOp pIx4 (gVar 1) (gC (.int 1)))) (aCons (gFz (gOp pIx4 (gOp pIx4 (gVar 1) (gC (.int 2))) (gC (.int 1)))) (aCons (gFz (gOp pIx4 (gOp pIx4 (gVar 1) (gC (.int 2))) (gC (.int 2)))) aNil)))))) aNil)))) sNext)
  (sSeq (sIf (gB (gOp pEq (gOp pIx4 (gOp pIx4 (gVar 1) (gC (.int 1))) (gC (.int 0))) (gC (.str "sum")))) (sAppend 3 (gTup (aCons (gC (.str "spread")) (aCons (gFz (gOp pIx4 (gOp pIx4 (gVar 1) (gC (.int 1))) (gC (.int 1)))) (aCons (gFz (gOp pIx4 (gOp pIx4 (gVar 1) (gC (.int 1))) (gC (.int 2)))) (aCons (gFz (gOp pIx4 (gVar 1) (gC (.int 2)))) aNil)))))) sNext)
  (sIf (gB (gOp pEq (gOp pIx4 (gVar 1) (gC (.int 1))) (gTup (aCons (gC (.str "one")) aNil)))) (sAppend 3 (gTup (aCons (gC (.str "drop")) (aCons (gFz (gOp pIx4 (gVar 1) (gC (.int 2)))) aNil)))) sNext))))) sNext)
  (sSeq (sAppend 3 (gTup (aCons (gC (.str "undo")) (aCons (gFz (gTup (aCons (gC (.str "drop")) (aCons (gFz (gVar 1)) aNil)))) aNil))))
  (sSeq (sAsg 4 (gIf (gB (gOp pGtI (gVar 2) (gC (.int 0)))) (gCall (F 10) (aCons (gFz (gVar 0)) (aCons (gC (.int 4)) aNil))) (gC (.int 3))))
  (sSeq (sIf (gB (gOp pEq (gVar 4) (gC (.int 0)))) (sSeq (sAsg 5 (gCall (F 15) (aCons (gFz (gVar 0)) (aCons (gFz (gVar 1)) (aCons (gFz (gOp pSub (gVar 2) (gC (.int 1)))) aNil)))))
  (sRet (gTup (aCons (gC (.str "then")) (aCons (gFz (gVar 5)) (aCons (gFz (gCall (F 15) (aCons (gFz (gVar 0)) (aCons (gFz (gOp pIx4 (gCall (F 16) (aCons (gFz (gVar 5)) aNil)) (gC (.int 1)))) (aCons (gFz (gOp pSub (gVar 2) (gC (.int 1)))) aNil))))) aNil)))))) sNext)
  (sSeq (sIf (gAndT (gB (gOp pEq (gVar 4) (gC (.int 1)))) (gB (gOp pNe (gOp pIx4 (gVar 1) (gC (.int 0))) (gC (.str "one"))))) (sSeq (sAsg 5 (gCall (F 15) (aCons (gFz (gVar 0)) (aCons (gFz (gOp pIx4 (gVar 1) (gC (.int 1)))) (aCons (gFz (gOp pSub (gVar 2) (gC (.int 1)))) aNil)))))
  (sRet (gTup (aCons (gFz (gIf (gB (gOp pEq (gOp pIx4 (gVar 1) (gC (.int 0))) (gC (.str "sum")))) (gC (.str "either")) (gC (.str "both")))) (aCons (gFz (gVar 5)) (aCons (gFz (gCall (F 15) (aCons (gFz (gVar 0)) (aCons (gFz (gOp pIx4 (gVar 1) (gC (.int 2)))) (aCons (gFz (gOp pSub (gVar 2) (gC (.int 1)))) aNil))))) aNil)))))) sNext)
  (sRet (gCall (F 11) (aCons (gFz (gVar 0)) (aCons (gFz (gVar 3)) aNil)))))))))))
def m_law_types (F : Fns) : GS := (sSeq (sAsg 1 (gOp pIx4 (gVar 0) (gC (.int 0))))
  (sSeq (sIf (gB (gOp pEq (gVar 1) (gC (.str "undo")))) (sSeq (sAsg 2 (gCall (F 16) (aCons (gFz (gOp pIx4 (gVar 0) (gC (.int 1)))) aNil)))
  (sRet (gIf (gB (gOp pNotN (gVar 2) (gC .non))) (gRev (gVar 2)) (gC .non)))) sNext)
  (sSeq (sIf (gB (gOp pIn (gVar 1) (gTup (aCons (gC (.str "then")) (aCons (gC (.str "either")) (aCons (gC (.str "both")) aNil)))))) (sSeq (sPar 3 4 (aCons (gNp (gCall (F 16) (aCons (gFz (gOp pIx4 (gVar 0) (gC (.int 1)))) aNil))) (aCons (gNp (gCall (F 16) (aCons (gFz (gOp pIx4 (gVar 0) (gC (.int 2)))) aNil))) aNil)))
  (sSeq (sIf (gOrT (gB (gOp pIsN (gVar 3) (gC .non))) (gB (gOp pIsN (gVar 4) (gC .non)))) (sRet (gC .non)) sNext)
  (sSeq (sIf (gB (gOp pEq (gVar 1) (gC (.str "then")))) (sRet (gIf (gB (gOp pEq (gOp pIx4 (gVar 3) (gC (.int 1))) (gOp pIx4 (gVar 4) (gC (.int 0))))) (gTup (aCons (gFz (gOp pIx4 (gVar 3) (gC (.int 0)))) (aCons (gFz (gOp pIx4 (gVar 4) (gC (.int 1)))) aNil))) (gC .non))) sNext)
  (sSeq (sAsg 5 (gIf (gB (gOp pEq (gVar 1) (gC (.str "either")))) (gC (.str "sum")) (gC (.str "pair"))))
  (sRet (gTup (aCons (gFz (gTup (aCons (gFz (gVar 5)) (aCons (gFz (gOp pIx4 (gVar 3) (gC (.int 0)))) (aCons (gFz (gOp pIx4 (gVar 4) (gC (.int 0)))) aNil))))) (aCons (gFz (gTup (aCons (gFz (gVar 5)) (aCons (gFz (gOp pIx4 (gVar 3) (gC (.int 1)))) (aCons (gFz (gOp pIx4 (gVar 4) (gC (.int 1)))) aNil))))) aNil)))))))) sNext)
  (sSeq (sAsg 6 (gOp pIx4 (gVar 0) (gC (.int 1))))
  (sSeq (sIf (gB (gOp pIn (gVar 1) (gTup (aCons (gC (.str "same")) (aCons (gC (.str "drop")) aNil))))) (sRet (gIf (gB (gOp pEq (gVar 1) (gC (.str "same")))) (gTup (aCons (gFz (gVar 6)) (aCons (gFz (gVar 6)) aNil))) (gTup (aCons (gFz (gTup (aCons (gC (.str "pair")) (aCons (gFz (gTup (aCons (gC (.str "one")) aNil))) (aCons (gFz (gVar 6)) aNil))))) (aCons (gFz (gVar 6)) aNil))))) sNext)
  (sSeq (sAsg 7 (gOp pIx4 (gVar 0) (gC (.int 2))))
  (sSeq (sIf (gB (gOp pIn (gVar 1) (gTup (aCons (gC (.str "turn sum")) (aCons (gC (.str "turn pair")) aNil))))) (sSeq (sAsg 5 (gSl (gVar 1) (oSome (gC (.int 5))) oNone))
  (sRet (gTup (aCons (gFz (gTup (aCons (gFz (gVar 5)) (aCons (gFz (gVar 6)) (aCons (gFz (gVar 7)) aNil))))) (aCons (gFz (gTup (aCons (gFz (gVar 5)) (aCons (gFz (gVar 7)) (aCons (gFz (gVar 6)) aNil))))) aNil))))) sNext)
  (sSeq (sAsg 8 (gOp pIx4 (gVar 0) (gC (.int 3))))
  (sSeq (sIf (gB (gOp pEq (gVar 1) (gC (.str "spread")))) (sRet (gTup (aCons (gFz (gTup (aCons (gC (.str "pair")) (aCons (gFz (gTup (aCons (gC (.str "sum")) (aCons (gFz (gVar 6)) (aCons (gFz (gVar 7)) aNil))))) (aCons (gFz (gVar 8)) aNil))))) (aCons (gFz (gTup (aCons (gC (.str "sum")) (aCons (gFz (gTup (aCons (gC (.str "pair")) (aCons (gFz (gVar 6)) (aCons (gFz (gVar 8)) aNil))))) (aCons (gFz (gTup (aCons (gC (.str "pair")) (aCons (gFz (gVar 7)) (aCons (gFz (gVar 8)) aNil))))) aNil))))) aNil)))) sNext)
  (sSeq (sAsg 5 (gSl (gVar 1) (oSome (gC (.int 6))) oNone))
  (sRet (gTup (aCons (gFz (gTup (aCons (gFz (gVar 5)) (aCons (gFz (gTup (aCons (gFz (gVar 5)) (aCons (gFz (gVar 6)) (aCons (gFz (gVar 7)) aNil))))) (aCons (gFz (gVar 8)) aNil))))) (aCons (gFz (gTup (aCons (gFz (gVar 5)) (aCons (gFz (gVar 6)) (aCons (gFz (gTup (aCons (gFz (gVar 5)) (aCons (gFz (gVar 7)) (aCons (gFz (gVar 8)) aNil))))) aNil))))) aNil))))))))))))))
def m_law_done (F : Fns) : GS := (sSeq (sAsg 2 (gOp pIx4 (gVar 0) (gC (.int 0))))
  (sSeq (sIf (gB (gOp pEq (gVar 2) (gC (.str "undo")))) (sRet (gOp pIx4 (gComp [3] (iOf (gCall (F 14) (aCons (gFz (gOp pIx4 (gCall (F 16) (aCons (gFz (gOp pIx4 (gVar 0) (gC (.int 1)))) aNil)) (gC (.int 0)))) aNil))) (tgName 3) (gB (gOp pEq (gCall (F 17) (aCons (gFz (gOp pIx4 (gVar 0) (gC (.int 1)))) (aCons (gFz (gVar 3)) aNil))) (gVar 1))) (gVar 3)) (gC (.int 0)))) sNext)
  (sSeq (sIf (gB (gOp pIn (gVar 2) (gTup (aCons (gC (.str "same")) (aCons (gC (.str "drop")) aNil))))) (sRet (gIf (gB (gOp pEq (gVar 2) (gC (.str "same")))) (gVar 1) (gOp pIx4 (gVar 1) (gC (.int 1))))) sNext)
  (sSeq (sIf (gB (gOp pIn (gVar 2) (gTup (aCons (gC (.str "turn sum")) (aCons (gC (.str "turn pair")) aNil))))) (sRet (gIf (gB (gOp pEq (gVar 2) (gC (.str "turn sum")))) (gTup (aCons (gFz (gOp pIx4 (gDictOb ["left", "right"] [gFz (gC (.str "right")), gFz (gC (.str "left"))]) (gOp pIx4 (gVar 1) (gC (.int 0))))) (aCons (gFz (gOp pIx4 (gVar 1) (gC (.int 1)))) aNil))) (gTup (aCons (gFz (gOp pIx4 (gVar 1) (gC (.int 1)))) (aCons (gFz (gOp pIx4 (gVar 1) (gC (.int 0)))) aNil))))) sNext)
  (sSeq (sIf (gB (gOp pEq (gVar 2) (gC (.str "then")))) (sRet (gCall (F 17) (aCons (gFz (gOp pIx4 (gVar 0) (gC (.int 2)))) (aCons (gFz (gCall (F 17) (aCons (gFz (gOp pIx4 (gVar 0) (gC (.int 1)))) (aCons (gFz (gVar 1)) aNil)))) aNil)))) sNext)
  (sSeq (sIf (gB (gOp pEq (gVar 2) (gC (.str "either")))) (sRet (gTup (aCons (gFz (gOp pIx4 (gVar 1) (gC (.int 0)))) (aCons (gFz (gCall (F 17) (aCons (gFz (gIf (gB (gOp pEq (gOp pIx4 (gVar 1) (gC (.int 0))) (gC (.str "left")))) (gOp pIx4 (gVar 0) (gC (.int 1))) (gOp pIx4 (gVar 0) (gC (.int 2))))) (aCons (gFz (gOp pIx4 (gVar 1) (gC (.int 1)))) aNil)))) aNil)))) sNext)
  (sSeq (sIf (gB (gOp pEq (gVar 2) (gC (.str "both")))) (sRet (gTup (aCons (gFz (gCall (F 17) (aCons (gFz (gOp pIx4 (gVar 0) (gC (.int 1)))) (aCons (gFz (gOp pIx4 (gVar 1) (gC (.int 0)))) aNil)))) (aCons (gFz (gCall (F 17) (aCons (gFz (gOp pIx4 (gVar 0) (gC (.int 2)))) (aCons (gFz (gOp pIx4 (gVar 1) (gC (.int 1)))) aNil)))) aNil)))) sNext)
  (sSeq (sIf (gB (gOp pEq (gVar 2) (gC (.str "shift pair")))) (sRet (gTup (aCons (gFz (gOp pIx4 (gOp pIx4 (gVar 1) (gC (.int 0))) (gC (.int 0)))) (aCons (gFz (gTup (aCons (gFz (gOp pIx4 (gOp pIx4 (gVar 1) (gC (.int 0))) (gC (.int 1)))) (aCons (gFz (gOp pIx4 (gVar 1) (gC (.int 1)))) aNil)))) aNil)))) sNext)
  (sSeq (sIf (gB (gOp pEq (gVar 2) (gC (.str "spread")))) (sRet (gTup (aCons (gFz (gOp pIx4 (gOp pIx4 (gVar 1) (gC (.int 0))) (gC (.int 0)))) (aCons (gFz (gTup (aCons (gFz (gOp pIx4 (gOp pIx4 (gVar 1) (gC (.int 0))) (gC (.int 1)))) (aCons (gFz (gOp pIx4 (gVar 1) (gC (.int 1)))) aNil)))) aNil)))) sNext)
  (sSeq (sIf (gB (gOp pEq (gOp pIx4 (gVar 1) (gC (.int 0))) (gC (.str "left")))) (sRet (gIf (gB (gOp pEq (gOp pIx4 (gOp pIx4 (gVar 1) (gC (.int 1))) (gC (.int 0))) (gC (.str "left")))) (gOp pIx4 (gVar 1) (gC (.int 1))) (gTup (aCons (gC (.str "right")) (aCons (gFz (gTup (aCons (gC (.str "left")) (aCons (gFz (gOp pIx4 (gOp pIx4 (gVar 1) (gC (.int 1))) (gC (.int 1)))) aNil)))) aNil))))) sNext)
  (sRet (gTup (aCons (gC (.str "right")) (aCons (gFz (gTup (aCons (gC (.str "right")) (aCons (gFz (gOp pIx4 (gVar 1) (gC (.int 1)))) aNil)))) aNil))))))))))))))
def m_law_is_plain (F : Fns) : GS := (sSeq (sIf (gB (gOp pEq (gOp pIx4 (gVar 0) (gC (.int 0))) (gC (.str "undo")))) (sRet (gOp pIn (gOp pIx4 (gOp pIx4 (gVar 0) (gC (.int 1))) (gC (.int 0))) (gTup (aCons (gC (.str "spread")) (aCons (gC (.str "shift sum")) (aCons (gC (.str "shift pair")) (aCons (gC (.str "drop")) aNil))))))) sNext)
  (sRet (gOr (gOp pNotIn (gOp pIx4 (gVar 0) (gC (.int 0))) (gTup (aCons (gC (.str "then")) (aCons (gC (.str "either")) (aCons (gC (.str "both")) aNil))))) (gAnd (gCall (F 18) (aCons (gFz (gOp pIx4 (gVar 0) (gC (.int 1)))) aNil)) (gCall (F 18) (aCons (gFz (gOp pIx4 (gVar 0) (gC (.int 2)))) aNil))))))
def m_law_is_program (F : Fns) : GS := (sSeq (sIf (gOrT (gNotT (gTru (gIsi "tuple" (gVar 0)))) (gOrT (gB (gOp pEq (gVar 0) (gTup aNil))) (gNotT (gTru (gIsi "str" (gOp pIx4 (gVar 0) (gC (.int 0)))))))) (sRet (gC (.bl false))) sNext)
  (sSeq (sAsg 1 (gDGet2 (gDictOb ["same", "turn sum", "turn pair", "shift sum", "shift pair", "spread", "drop", "then", "either", "both", "undo"] [gFz (gC (.int 2)), gFz (gC (.int 3)), gFz (gC (.int 3)), gFz (gC (.int 4)), gFz (gC (.int 4)), gFz (gC (.int 4)), gFz (gC (.int 2)), gFz (gC (.int 3)), gFz (gC (.int 3)), gFz (gC (.int 3)), gFz (gC (.int 2))]) (gOp pIx4 (gVar 0) (gC (.int 0))) (gC (.int 0))))
  (sSeq (sIf (gB (gOp pNe (gCB bLen (aCons (gVar 0) aNil)) (gVar 1))) (sRet (gC (.bl false))) sNext)
  (sRet (gOr (gOp pNotIn (gOp pIx4 (gVar 0) (gC (.int 0))) (gTup (aCons (gC (.str "then")) (aCons (gC (.str "either")) (aCons (gC (.str "both")) (aCons (gC (.str "undo")) aNil)))))) (gOp pEq (gComp [2] (iOf (gSl (gVar 0) (oSome (gC (.int 1))) oNone)) (tgName 2) (gNotT (gTru (gCall (F 19) (aCons (gFz (gVar 2)) aNil)))) (gVar 2)) (gLst aNil)))))))
def m_law (F : Fns) : GS := (sSeq (sAsg 1 (gDictOb ["draws", "at"] [gFz (gCall (F 9) (aCons (gFz (gVar 0)) (aCons (gC (.int 700)) aNil))), gFz (gC (.int 0))]))
  (sSeq (sFor (iRange1 (aCons (gC (.int 5)) aNil)) (tgName 2) (sSeq (sAsg 3 (gCall (F 13) (aCons (gFz (gVar 1)) (aCons (gC (.int 3)) aNil))))
  (sSeq (sAsg 4 (gCall (F 15) (aCons (gFz (gVar 1)) (aCons (gFz (gVar 3)) (aCons (gC (.int 3)) aNil)))))
  (sSeq (sIf (gB (gOp pEq (gCall (F 10) (aCons (gFz (gVar 1)) (aCons (gC (.int 4)) aNil))) (gC (.int 0)))) (sAsg 4 (gTup (aCons (gC (.str "undo")) (aCons (gFz (gVar 4)) aNil)))) sNext)
  (sSeq (sAsg 5 (gCall (F 16) (aCons (gFz (gVar 4)) aNil)))
  (sSeq (sIf (gNotT (gTru (gCall (F 12) (aCons (gFz (gCall (F 3) (aCons (gFz (gVar 4)) aNil))) (aCons (gFz (gVar 5)) aNil))))) (sRet (gC (.bl false))) sNext)
  (sSeq (sAsg 6 (gCall (F 7) (aCons (gFz (gVar 4)) aNil)))
  (sSeq (sIf (gOrT (gNotT (gTru (gCall (F 19) (aCons (gFz (gVar 6)) aNil)))) (gOrT (gNotT (gTru (gCall (F 18) (aCons (gFz (gVar 6)) aNil)))) (gOrT (gNotT (gTru (gCall (F 12) (aCons (gFz (gCall (F 3) (aCons (gFz (gVar 6)) aNil))) (aCons (gFz (gRev (gVar 5))) aNil))))) (gB (gOp pNe (gCall (F 16) (aCons (gFz (gVar 6)) aNil)) (gRev (gVar 5))))))) (sRet (gC (.bl false))) sNext)
  (sSeq (sFor (iOf (gSl (gCall (F 14) (aCons (gFz (gOp pIx4 (gVar 5) (gC (.int 0)))) aNil)) oNone (oSome (gC (.int 12))))) (tgName 7) (sSeq (sAsg 9 (gCall (F 17) (aCons (gFz (gVar 4)) (aCons (gFz (gVar 7)) aNil))))
  (sSeq (sIf (gOrT (gNotT (gTru (gCall (F 12) (aCons (gFz (gCall (F 5) (aCons (gFz (gVar 4)) (aCons (gFz (gVar 7)) aNil)))) (aCons (gFz (gVar 9)) aNil))))) (gOrT (gNotT (gTru (gCall (F 12) (aCons (gFz (gCall (F 5) (aCons (gFz (gVar 6)) (aCons (gFz (gVar 9)) aNil)))) (aCons (gFz (gVar 7)) aNil))))) (gB (gOp pNe (gCall (F 17) (aCons (gFz (gVar 6)) (aCons (gFz (gVar 9)) aNil))) (gVar 7))))) (sRet (gC (.bl false))) sNext)
  (sForget [7, 9] sNext))))
  (sSeq (sAsg 8 (gTup (aCons (gC (.str "then")) (aCons (gFz (gVar 4)) (aCons (gFz (gCall (F 15) (aCons (gFz (gVar 1)) (aCons (gFz (gCall (F 13) (aCons (gFz (gVar 1)) (aCons (gC (.int 2)) aNil)))) (aCons (gC (.int 1)) aNil))))) aNil)))))
  (sSeq (sIf (gOrT (gNotT (gTru (gCall (F 12) (aCons (gFz (gCall (F 3) (aCons (gFz (gVar 8)) aNil))) (aCons (gFz (gCall (F 16) (aCons (gFz (gVar 8)) aNil))) aNil))))) (gNotT (gTru (gCall (F 12) (aCons (gFz (gOp pIsN (gCall (F 3) (aCons (gFz (gTup (aCons (gC (.str "either")) (aCons (gFz (gTup (aCons (gC (.str "same")) (aCons (gFz (gVar 3)) aNil)))) (aCons (gFz (gVar 8)) aNil))))) aNil)) (gC .non))) (aCons (gFz (gOp pIsN (gCall (F 16) (aCons (gFz (gVar 8)) aNil)) (gC .non))) aNil)))))) (sRet (gC (.bl false))) sNext)
  (sForget [2, 3, 4, 5, 6, 7, 8, 9] sNext))))))))))))
  (sRet (gC (.bl true)))))
set_option maxHeartbeats 0 in
theorem d_sum_of {K : PySem.W.Frag} {F : Fns} {k : Nat} {X : Cx} (c : Ctx K infos free F k n_sum_of (defScope s_sum_of) (fun _ => true) X) : PSs X (defBody s_sum_of) (tDs X.K (m_sum_of F)) :=
  (dss_one (ds_ret (de_tup (da_cons (de_str (by decide)) (da_cons (de_fz (cV c 0 rfl (by decide +kernel) rfl rfl)) (da_cons (de_fz (cV c 1 rfl (by decide +kernel) rfl rfl)) da_nil))))))
set_option maxHeartbeats 0 in
theorem d_pair_of {K : PySem.W.Frag} {F : Fns} {k : Nat} {X : Cx} (c : Ctx K infos free F k n_pair_of (defScope s_pair_of) (fun _ => true) X) : PSs X (defBody s_pair_of) (tDs X.K (m_pair_of F)) :=
  (dss_one (ds_ret (de_tup (da_cons (de_str (by decide)) (da_cons (de_fz (cV c 0 rfl (by decide +kernel) rfl rfl)) (da_cons (de_fz (cV c 1 rfl (by decide +kernel) rfl rfl)) da_nil))))))
set_option maxHeartbeats 0 in
theorem d_plain_type {K : PySem.W.Frag} {F : Fns} {k : Nat} {X : Cx} (c : Ctx K infos free F k n_plain_type (defScope s_plain_type) (fun _ => true) X) : PSs X (defBody s_plain_type) (tDs X.K (m_plain_type F)) :=
  (dss_cons (cAsg c 1 rfl (by decide +kernel) rfl (cIx c (cV c 0 rfl (by decide +kernel) rfl rfl) de_int (fun _ _ => rfl)) rfl)
  (dss_cons (ds_if (tEq c (cV c 1 rfl (by decide +kernel) rfl rfl) (de_str (by decide))) (dss_one (ds_ret (de_tup (da_cons (de_fz (cIx c (cV c 0 rfl (by decide +kernel) rfl rfl) de_int (fun _ _ => rfl))) (da_cons (de_fz (cIx c (cV c 0 rfl (by decide +kernel) rfl rfl) de_int (fun _ _ => rfl))) da_nil))))) dss_nil)
  (dss_cons (ds_if (tEq c (cV c 1 rfl (by decide +kernel) rfl rfl) (de_str (by decide))) (dss_one (ds_ret (de_tup (da_cons (de_fz (cCall c 1 rfl (by decide +kernel) (da_cons (de_fz (de_tup (da_cons (de_str (by decide)) da_nil))) (da_cons (de_fz (cIx c (cV c 0 rfl (by decide +kernel) rfl rfl) de_int (fun _ _ => rfl))) da_nil)) (aCons_len (aCons_len aNil_len)) rfl rfl rfl)) (da_cons (de_fz (cIx c (cV c 0 rfl (by decide +kernel) rfl rfl) de_int (fun _ _ => rfl))) da_nil))))) dss_nil)
  (dss_cons (ds_if (tEq c (cV c 1 rfl (by decide +kernel) rfl rfl) (de_str (by decide))) (dss_one (ds_ret (de_tup (da_cons (de_fz (cCall c 0 rfl (by decide +kernel) (da_cons (de_fz (cIx c (cV c 0 rfl (by decide +kernel) rfl rfl) de_int (fun _ _ => rfl))) (da_cons (de_fz (cIx c (cV c 0 rfl (by decide +kernel) rfl rfl) de_int (fun _ _ => rfl))) da_nil)) (aCons_len (aCons_len aNil_len)) rfl rfl rfl)) (da_cons (de_fz (cCall c 0 rfl (by decide +kernel) (da_cons (de_fz (cIx c (cV c 0 rfl (by decide +kernel) rfl rfl) de_int (fun _ _ => rfl))) (da_cons (de_fz (cIx c (cV c 0 rfl (by decide +kernel) rfl rfl) de_int (fun _ _ => rfl))) da_nil)) (aCons_len (aCons_len aNil_len)) rfl rfl rfl)) da_nil))))) dss_nil)
  (dss_cons (ds_if (tEq c (cV c 1 rfl (by decide +kernel) rfl rfl) (de_str (by decide))) (dss_one (ds_ret (de_tup (da_cons (de_fz (cCall c 1 rfl (by decide +kernel) (da_cons (de_fz (cIx c (cV c 0 rfl (by decide +kernel) rfl rfl) de_int (fun _ _ => rfl))) (da_cons (de_fz (cIx c (cV c 0 rfl (by decide +kernel) rfl rfl) de_int (fun _ _ => rfl))) da_nil)) (aCons_len (aCons_len aNil_len)) rfl rfl rfl)) (da_cons (de_fz (cCall c 1 rfl (by decide +kernel) (da_cons (de_fz (cIx c (cV c 0 rfl (by decide +kernel) rfl rfl) de_int (fun _ _ => rfl))) (da_cons (de_fz (cIx c (cV c 0 rfl (by decide +kernel) rfl rfl) de_int (fun _ _ => rfl))) da_nil)) (aCons_len (aCons_len aNil_len)) rfl rfl rfl)) da_nil))))) dss_nil)
  (dss_cons (ds_asgT (pg_tup (c).calm (pgs_cons (cPgN c 2 rfl (by decide +kernel) (by decide +kernel)) (pgs_cons (cPgN c 3 rfl (by decide +kernel) (by decide +kernel)) (pgs_cons (cPgN c 4 rfl (by decide +kernel) (by decide +kernel)) (pgs_cons (cPgN c 5 rfl (by decide +kernel) (by decide +kernel)) pgs_nil))))) (dg_tup (dgs_cons (dg_name 2) (dgs_cons (dg_name 3) (dgs_cons (dg_name 4) (dgs_cons (dg_name 5) dgs_nil))))) (cV c 0 rfl (by decide +kernel) rfl rfl) rfl rfl rfl)
  (dss_cons (ds_if (tEq c (cV c 1 rfl (by decide +kernel) rfl rfl) (de_str (by decide))) (dss_one (ds_ret (de_tup (da_cons (de_fz (cCall c 1 rfl (by decide +kernel) (da_cons (de_fz (cCall c 0 rfl (by decide +kernel) (da_cons (de_fz (cV c 3 rfl (by decide +kernel) rfl rfl)) (da_cons (de_fz (cV c 4 rfl (by decide +kernel) rfl rfl)) da_nil)) (aCons_len (aCons_len aNil_len)) rfl rfl rfl)) (da_cons (de_fz (cV c 5 rfl (by decide +kernel) rfl rfl)) da_nil)) (aCons_len (aCons_len aNil_len)) rfl rfl rfl)) (da_cons (de_fz (cCall c 0 rfl (by decide +kernel) (da_cons (de_fz (cCall c 1 rfl (by decide +kernel) (da_cons (de_fz (cV c 3 rfl (by decide +kernel) rfl rfl)) (da_cons (de_fz (cV c 5 rfl (by decide +kernel) rfl rfl)) da_nil)) (aCons_len (aCons_len aNil_len)) rfl rfl rfl)) (da_cons (de_fz (cCall c 1 rfl (by decide +kernel) (da_cons (de_fz (cV c 4 rfl (by decide +kernel) rfl rfl)) (da_cons (de_fz (cV c 5 rfl (by decide +kernel) rfl rfl)) da_nil)) (aCons_len (aCons_len aNil_len)) rfl rfl rfl)) da_nil)) (aCons_len (aCons_len aNil_len)) rfl rfl rfl)) da_nil))))) dss_nil)
  (dss_cons (cAsg c 6 rfl (by decide +kernel) rfl (de_if (tEq c (cV c 1 rfl (by decide +kernel) rfl rfl) (de_str (by decide))) (cFnV c 0 rfl (by decide +kernel) rfl) (cFnV c 1 rfl (by decide +kernel) rfl)) rfl)
  (dss_one (ds_ret (de_tup (da_cons (de_fz (cCallV c 6 rfl (by decide +kernel) rfl rfl (da_cons (de_fz (cCallV c 6 rfl (by decide +kernel) rfl rfl (da_cons (de_fz (cV c 3 rfl (by decide +kernel) rfl rfl)) (da_cons (de_fz (cV c 4 rfl (by decide +kernel) rfl rfl)) da_nil)) rfl rfl)) (da_cons (de_fz (cV c 5 rfl (by decide +kernel) rfl rfl)) da_nil)) rfl rfl)) (da_cons (de_fz (cCallV c 6 rfl (by decide +kernel) rfl rfl (da_cons (de_fz (cV c 3 rfl (by decide +kernel) rfl rfl)) (da_cons (de_fz (cCallV c 6 rfl (by decide +kernel) rfl rfl (da_cons (de_fz (cV c 4 rfl (by decide +kernel) rfl rfl)) (da_cons (de_fz (cV c 5 rfl (by decide +kernel) rfl rfl)) da_nil)) rfl rfl)) da_nil)) rfl rfl)) da_nil)))))))))))))
set_option maxHeartbeats 0 in
theorem d_type_of {K : PySem.W.Frag} {F : Fns} {k : Nat} {X : Cx} (c : Ctx K infos free F k n_type_of (defScope s_type_of) (fun _ => true) X) : PSs X (defBody s_type_of) (tDs X.K (m_type_of F)) :=
  (dss_cons (cAsg c 1 rfl (by decide +kernel) rfl (cIx c (cV c 0 rfl (by decide +kernel) rfl rfl) de_int (fun _ _ => rfl)) rfl)
  (dss_cons (ds_if (tEq c (cV c 1 rfl (by decide +kernel) rfl rfl) (de_str (by decide))) (dss_cons (cAsg c 2 rfl (by decide +kernel) rfl (cCall c 3 rfl (by decide +kernel) (da_cons (de_fz (cIx c (cV c 0 rfl (by decide +kernel) rfl rfl) de_int (fun _ _ => rfl))) da_nil) (aCons_len aNil_len) rfl rfl rfl) rfl)
  (dss_one (ds_ret (de_if (dt_cmp op_isN opS_isN (cV c 2 rfl (by decide +kernel) rfl rfl) de_non (nomark _)) de_non (de_rev (cV c 2 rfl (by decide +kernel) rfl rfl)))))) dss_nil)
  (dss_cons (ds_if (tNotIn c (cV c 1 rfl (by decide +kernel) rfl rfl) (de_tup (da_cons (de_str (by decide)) (da_cons (de_str (by decide)) (da_cons (de_str (by decide)) da_nil)))) (by with_unfolding_all rfl)) (dss_one (ds_ret (cCall c 2 rfl (by decide +kernel) (da_cons (de_fz (cV c 0 rfl (by decide +kernel) rfl rfl)) da_nil) (aCons_len aNil_len) rfl rfl rfl))) dss_nil)
  (dss_cons (cPar c 3 4 rfl rfl (by decide) (by decide +kernel) (by decide +kernel) (da_cons (de_np (cCall c 3 rfl (by decide +kernel) (da_cons (de_fz (cIx c (cV c 0 rfl (by decide +kernel) rfl rfl) de_int (fun _ _ => rfl))) da_nil) (aCons_len aNil_len) rfl rfl rfl)) (da_cons (de_np (cCall c 3 rfl (by decide +kernel) (da_cons (de_fz (cIx c (cV c 0 rfl (by decide +kernel) rfl rfl) de_int (fun _ _ => rfl))) da_nil) (aCons_len aNil_len) rfl rfl rfl)) da_nil)) (sw_par (by rw [(c).sc_]; rfl) (by rw [(c).sc_]; decide +kernel) (by rw [(c).sc_]; decide +kernel) rfl rfl rfl rfl rfl rfl) rfl)
  (dss_cons (ds_if (PW.pt (dw_or (dt_cmp op_isN opS_isN (cV c 3 rfl (by decide +kernel) rfl rfl) de_non (nomark _)) (dw_or1 (dt_cmp op_isN opS_isN (cV c 4 rfl (by decide +kernel) rfl rfl) de_non (nomark _))))) (dss_one (ds_ret de_non)) dss_nil)
  (dss_cons (ds_if (tEq c (cV c 1 rfl (by decide +kernel) rfl rfl) (de_str (by decide))) (dss_one (ds_ret (de_if (tEq c (cIx c (cV c 3 rfl (by decide +kernel) rfl rfl) de_int (fun _ _ => rfl)) (cIx c (cV c 4 rfl (by decide +kernel) rfl rfl) de_int (fun _ _ => rfl))) (de_tup (da_cons (de_fz (cIx c (cV c 3 rfl (by decide +kernel) rfl rfl) de_int (fun _ _ => rfl))) (da_cons (de_fz (cIx c (cV c 4 rfl (by decide +kernel) rfl rfl) de_int (fun _ _ => rfl))) da_nil))) de_non))) dss_nil)
  (dss_cons (cAsg c 5 rfl (by decide +kernel) rfl (de_if (tEq c (cV c 1 rfl (by decide +kernel) rfl rfl) (de_str (by decide))) (cFnV c 0 rfl (by decide +kernel) rfl) (cFnV c 1 rfl (by decide +kernel) rfl)) rfl)
  (dss_one (ds_ret (de_tup (da_cons (de_fz (cCallV c 5 rfl (by decide +kernel) rfl rfl (da_cons (de_fz (cIx c (cV c 3 rfl (by decide +kernel) rfl rfl) de_int (fun _ _ => rfl))) (da_cons (de_fz (cIx c (cV c 4 rfl (by decide +kernel) rfl rfl) de_int (fun _ _ => rfl))) da_nil)) rfl rfl)) (da_cons (de_fz (cCallV c 5 rfl (by decide +kernel) rfl rfl (da_cons (de_fz (cIx c (cV c 3 rfl (by decide +kernel) rfl rfl) de_int (fun _ _ => rfl))) (da_cons (de_fz (cIx c (cV c 4 rfl (by decide +kernel) rfl rfl) de_int (fun _ _ => rfl))) da_nil)) rfl rfl)) da_nil))))))))))))
set_option maxHeartbeats 0 in
theorem d_turned_sum {K : PySem.W.Frag} {F : Fns} {k : Nat} {X : Cx} (c : Ctx K infos free F k n_turned_sum (defScope s_turned_sum) (fun _ => true) X) : PSs X (defBody s_turned_sum) (tDs X.K (m_turned_sum F)) :=
  (dss_one (ds_ret (de_tup (da_cons (de_fz (de_if (tEq c (cIx c (cV c 0 rfl (by decide +kernel) rfl rfl) de_int (fun _ _ => rfl)) (de_str (by decide))) (de_str (by decide)) (de_str (by decide)))) (da_cons (de_fz (cIx c (cV c 0 rfl (by decide +kernel) rfl rfl) de_int (fun _ _ => rfl))) da_nil)))))
set_option maxHeartbeats 0 in
theorem d_done {K : PySem.W.Frag} {F : Fns} {k : Nat} {X : Cx} (c : Ctx K infos free F k n_done (defScope s_done) (fun _ => true) X) : PSs X (defBody s_done) (tDs X.K (m_done F)) :=
  (dss_cons (cAsg c 2 rfl (by decide +kernel) rfl (cIx c (cV c 0 rfl (by decide +kernel) rfl rfl) de_int (fun _ _ => rfl)) rfl)
  (dss_cons (ds_if (tEq c (cV c 2 rfl (by decide +kernel) rfl rfl) (de_str (by decide))) (dss_one (ds_ret (cV c 1 rfl (by decide +kernel) rfl rfl))) dss_nil)
  (dss_cons (ds_if (tEq c (cV c 2 rfl (by decide +kernel) rfl rfl) (de_str (by decide))) (dss_one (ds_ret (cIx c (cV c 1 rfl (by decide +kernel) rfl rfl) de_int (fun _ _ => rfl)))) dss_nil)
  (dss_cons (ds_if (tEq c (cV c 2 rfl (by decide +kernel) rfl rfl) (de_str (by decide))) (dss_one (ds_ret (cCall c 4 rfl (by decide +kernel) (da_cons (de_fz (cV c 1 rfl (by decide +kernel) rfl rfl)) da_nil) (aCons_len aNil_len) rfl rfl rfl))) dss_nil)
  (dss_cons (ds_if (tEq c (cV c 2 rfl (by decide +kernel) rfl rfl) (de_str (by decide))) (dss_one (ds_ret (de_tup (da_cons (de_fz (cIx c (cV c 1 rfl (by decide +kernel) rfl rfl) de_int (fun _ _ => rfl))) (da_cons (de_fz (cIx c (cV c 1 rfl (by decide +kernel) rfl rfl) de_int (fun _ _ => rfl))) da_nil))))) dss_nil)
  (dss_cons (ds_if (tEq c (cV c 2 rfl (by decide +kernel) rfl rfl) (de_str (by decide))) (dss_one (ds_ret (cCall c 5 rfl (by decide +kernel) (da_cons (de_fz (cIx c (cV c 0 rfl (by decide +kernel) rfl rfl) de_int (fun _ _ => rfl))) (da_cons (de_fz (cCall c 5 rfl (by decide +kernel) (da_cons (de_fz (cIx c (cV c 0 rfl (by decide +kernel) rfl rfl) de_int (fun _ _ => rfl))) (da_cons (de_fz (cV c 1 rfl (by decide +kernel) rfl rfl)) da_nil)) (aCons_len (aCons_len aNil_len)) rfl rfl rfl)) da_nil)) (aCons_len (aCons_len aNil_len)) rfl rfl rfl))) dss_nil)
  (dss_cons (ds_if (tEq c (cV c 2 rfl (by decide +kernel) rfl rfl) (de_str (by decide))) (dss_one (ds_ret (de_tup (da_cons (de_fz (cIx c (cV c 1 rfl (by decide +kernel) rfl rfl) de_int (fun _ _ => rfl))) (da_cons (de_fz (cCall c 5 rfl (by decide +kernel) (da_cons (de_fz (de_if (tEq c (cIx c (cV c 1 rfl (by decide +kernel) rfl rfl) de_int (fun _ _ => rfl)) (de_str (by decide))) (cIx c (cV c 0 rfl (by decide +kernel) rfl rfl) de_int (fun _ _ => rfl)) (cIx c (cV c 0 rfl (by decide +kernel) rfl rfl) de_int (fun _ _ => rfl)))) (da_cons (de_fz (cIx c (cV c 1 rfl (by decide +kernel) rfl rfl) de_int (fun _ _ => rfl))) da_nil)) (aCons_len (aCons_len aNil_len)) rfl rfl rfl)) da_nil))))) dss_nil)
  (dss_cons (ds_if (tEq c (cV c 2 rfl (by decide +kernel) rfl rfl) (de_str (by decide))) (dss_one (ds_ret (de_tup (da_cons (de_fz (cCall c 5 rfl (by decide +kernel) (da_cons (de_fz (cIx c (cV c 0 rfl (by decide +kernel) rfl rfl) de_int (fun _ _ => rfl))) (da_cons (de_fz (cIx c (cV c 1 rfl (by decide +kernel) rfl rfl) de_int (fun _ _ => rfl))) da_nil)) (aCons_len (aCons_len aNil_len)) rfl rfl rfl)) (da_cons (de_fz (cCall c 5 rfl (by decide +kernel) (da_cons (de_fz (cIx c (cV c 0 rfl (by decide +kernel) rfl rfl) de_int (fun _ _ => rfl))) (da_cons (de_fz (cIx c (cV c 1 rfl (by decide +kernel) rfl rfl) de_int (fun _ _ => rfl))) da_nil)) (aCons_len (aCons_len aNil_len)) rfl rfl rfl)) da_nil))))) dss_nil)
  (dss_cons (ds_if (tEq c (cV c 2 rfl (by decide +kernel) rfl rfl) (de_str (by decide))) (dss_one (ds_ret (cCall c 6 rfl (by decide +kernel) (da_cons (de_fz (cIx c (cV c 0 rfl (by decide +kernel) rfl rfl) de_int (fun _ _ => rfl))) (da_cons (de_fz (cV c 1 rfl (by decide +kernel) rfl rfl)) da_nil)) (aCons_len (aCons_len aNil_len)) rfl rfl rfl))) dss_nil)
  (dss_cons (ds_if (tEq c (cV c 2 rfl (by decide +kernel) rfl rfl) (de_str (by decide))) (dss_one (ds_ret (de_tup (da_cons (de_fz (cIx c (cIx c (cV c 1 rfl (by decide +kernel) rfl rfl) de_int (fun _ _ => rfl)) de_int (fun _ _ => rfl))) (da_cons (de_fz (de_tup (da_cons (de_fz (cIx c (cIx c (cV c 1 rfl (by decide +kernel) rfl rfl) de_int (fun _ _ => rfl)) de_int (fun _ _ => rfl))) (da_cons (de_fz (cIx c (cV c 1 rfl (by decide +kernel) rfl rfl) de_int (fun _ _ => rfl))) da_nil)))) da_nil))))) dss_nil)
  (dss_cons (ds_if (tEq c (cV c 2 rfl (by decide +kernel) rfl rfl) (de_str (by decide))) (dss_one (ds_ret (de_tup (da_cons (de_fz (cIx c (cIx c (cV c 1 rfl (by decide +kernel) rfl rfl) de_int (fun _ _ => rfl)) de_int (fun _ _ => rfl))) (da_cons (de_fz (de_tup (da_cons (de_fz (cIx c (cIx c (cV c 1 rfl (by decide +kernel) rfl rfl) de_int (fun _ _ => rfl)) de_int (fun _ _ => rfl))) (da_cons (de_fz (cIx c (cV c 1 rfl (by decide +kernel) rfl rfl) de_int (fun _ _ => rfl))) da_nil)))) da_nil))))) dss_nil)
  (dss_cons (ds_if (tEq c (cIx c (cV c 1 rfl (by decide +kernel) rfl rfl) de_int (fun _ _ => rfl)) (de_str (by decide))) (dss_one (ds_ret (de_tup (da_cons (de_str (by decide)) (da_cons (de_fz (cV c 1 rfl (by decide +kernel) rfl rfl)) da_nil))))) dss_nil)
  (dss_one (ds_ret (de_if (tEq c (cIx c (cIx c (cV c 1 rfl (by decide +kernel) rfl rfl) de_int (fun _ _ => rfl)) de_int (fun _ _ => rfl)) (de_str (by decide))) (cIx c (cV c 1 rfl (by decide +kernel) rfl rfl) de_int (fun _ _ => rfl)) (de_tup (da_cons (de_str (by decide)) (da_cons (de_fz (de_tup (da_cons (de_str (by decide)) (da_cons (de_fz (cIx c (cIx c (cV c 1 rfl (by decide +kernel) rfl rfl) de_int (fun _ _ => rfl)) de_int (fun _ _ => rfl))) da_nil)))) da_nil))))))))))))))))))
set_option maxHeartbeats 0 in
theorem d_back {K : PySem.W.Frag} {F : Fns} {k : Nat} {X : Cx} (c : Ctx K infos free F k n_back (defScope s_back) (fun _ => true) X) : PSs X (defBody s_back) (tDs X.K (m_back F)) :=
  (dss_cons (cAsg c 2 rfl (by decide +kernel) rfl (cIx c (cV c 0 rfl (by decide +kernel) rfl rfl) de_int (fun _ _ => rfl)) rfl)
  (dss_cons (ds_if (tEq c (cV c 2 rfl (by decide +kernel) rfl rfl) (de_str (by decide))) (dss_one (ds_ret (de_tup (da_cons (de_fz (de_tup da_nil)) (da_cons (de_fz (cV c 1 rfl (by decide +kernel) rfl rfl)) da_nil))))) dss_nil)
  (dss_cons (ds_if (tEq c (cV c 2 rfl (by decide +kernel) rfl rfl) (de_str (by decide))) (dss_one (ds_ret (cCall c 6 rfl (by decide +kernel) (da_cons (de_fz (cIx c (cV c 0 rfl (by decide +kernel) rfl rfl) de_int (fun _ _ => rfl))) (da_cons (de_fz (cCall c 6 rfl (by decide +kernel) (da_cons (de_fz (cIx c (cV c 0 rfl (by decide +kernel) rfl rfl) de_int (fun _ _ => rfl))) (da_cons (de_fz (cV c 1 rfl (by decide +kernel) rfl rfl)) da_nil)) (aCons_len (aCons_len aNil_len)) rfl rfl rfl)) da_nil)) (aCons_len (aCons_len aNil_len)) rfl rfl rfl))) dss_nil)
  (dss_cons (ds_if (tEq c (cV c 2 rfl (by decide +kernel) rfl rfl) (de_str (by decide))) (dss_one (ds_ret (de_tup (da_cons (de_fz (cIx c (cV c 1 rfl (by decide +kernel) rfl rfl) de_int (fun _ _ => rfl))) (da_cons (de_fz (cCall c 6 rfl (by decide +kernel) (da_cons (de_fz (de_if (tEq c (cIx c (cV c 1 rfl (by decide +kernel) rfl rfl) de_int (fun _ _ => rfl)) (de_str (by decide))) (cIx c (cV c 0 rfl (by decide +kernel) rfl rfl) de_int (fun _ _ => rfl)) (cIx c (cV c 0 rfl (by decide +kernel) rfl rfl) de_int (fun _ _ => rfl)))) (da_cons (de_fz (cIx c (cV c 1 rfl (by decide +kernel) rfl rfl) de_int (fun _ _ => rfl))) da_nil)) (aCons_len (aCons_len aNil_len)) rfl rfl rfl)) da_nil))))) dss_nil)
  (dss_cons (ds_if (tEq c (cV c 2 rfl (by decide +kernel) rfl rfl) (de_str (by decide))) (dss_one (ds_ret (de_tup (da_cons (de_fz (cCall c 6 rfl (by decide +kernel) (da_cons (de_fz (cIx c (cV c 0 rfl (by decide +kernel) rfl rfl) de_int (fun _ _ => rfl))) (da_cons (de_fz (cIx c (cV c 1 rfl (by decide +kernel) rfl rfl) de_int (fun _ _ => rfl))) da_nil)) (aCons_len (aCons_len aNil_len)) rfl rfl rfl)) (da_cons (de_fz (cCall c 6 rfl (by decide +kernel) (da_cons (de_fz (cIx c (cV c 0 rfl (by decide +kernel) rfl rfl) de_int (fun _ _ => rfl))) (da_cons (de_fz (cIx c (cV c 1 rfl (by decide +kernel) rfl rfl) de_int (fun _ _ => rfl))) da_nil)) (aCons_len (aCons_len aNil_len)) rfl rfl rfl)) da_nil))))) dss_nil)
  (dss_cons (ds_if (tEq c (cV c 2 rfl (by decide +kernel) rfl rfl) (de_str (by decide))) (dss_one (ds_ret (cCall c 5 rfl (by decide +kernel) (da_cons (de_fz (cIx c (cV c 0 rfl (by decide +kernel) rfl rfl) de_int (fun _ _ => rfl))) (da_cons (de_fz (cV c 1 rfl (by decide +kernel) rfl rfl)) da_nil)) (aCons_len (aCons_len aNil_len)) rfl rfl rfl))) dss_nil)
  (dss_cons (ds_if (tEq c (cV c 2 rfl (by decide +kernel) rfl rfl) (de_str (by decide))) (dss_one (ds_ret (de_tup (da_cons (de_fz (de_tup (da_cons (de_fz (cIx c (cV c 1 rfl (by decide +kernel) rfl rfl) de_int (fun _ _ => rfl))) (da_cons (de_fz (cIx c (cIx c (cV c 1 rfl (by decide +kernel) rfl rfl) de_int (fun _ _ => rfl)) de_int (fun _ _ => rfl))) da_nil)))) (da_cons (de_fz (cIx c (cIx c (cV c 1 rfl (by decide +kernel) rfl rfl) de_int (fun _ _ => rfl)) de_int (fun _ _ => rfl))) da_nil))))) dss_nil)
  (dss_cons (ds_if (tEq c (cV c 2 rfl (by decide +kernel) rfl rfl) (de_str (by decide))) (dss_one (ds_ret (de_tup (da_cons (de_fz (de_tup (da_cons (de_fz (cIx c (cV c 1 rfl (by decide +kernel) rfl rfl) de_int (fun _ _ => rfl))) (da_cons (de_fz (cIx c (cIx c (cV c 1 rfl (by decide +kernel) rfl rfl) de_int (fun _ _ => rfl)) de_int (fun _ _ => rfl))) da_nil)))) (da_cons (de_fz (cIx c (cIx c (cV c 1 rfl (by decide +kernel) rfl rfl) de_int (fun _ _ => rfl)) de_int (fun _ _ => rfl))) da_nil))))) dss_nil)
  (dss_cons (ds_if (tEq c (cV c 2 rfl (by decide +kernel) rfl rfl) (de_str (by decide))) (dss_cons (ds_if (tEq c (cIx c (cV c 1 rfl (by decide +kernel) rfl rfl) de_int (fun _ _ => rfl)) (de_str (by decide))) (dss_one (ds_ret (de_tup (da_cons (de_str (by decide)) (da_cons (de_fz (cV c 1 rfl (by decide +kernel) rfl rfl)) da_nil))))) dss_nil)
  (dss_one (ds_ret (de_if (tEq c (cIx c (cIx c (cV c 1 rfl (by decide +kernel) rfl rfl) de_int (fun _ _ => rfl)) de_int (fun _ _ => rfl)) (de_str (by decide))) (cIx c (cV c 1 rfl (by decide +kernel) rfl rfl) de_int (fun _ _ => rfl)) (de_tup (da_cons (de_str (by decide)) (da_cons (de_fz (de_tup (da_cons (de_str (by decide)) (da_cons (de_fz (cIx c (cIx c (cV c 1 rfl (by decide +kernel) rfl rfl) de_int (fun _ _ => rfl)) de_int (fun _ _ => rfl))) da_nil)))) da_nil))))))) dss_nil)
  (dss_one (ds_ret (cCall c 5 rfl (by decide +kernel) (da_cons (de_fz (cV c 0 rfl (by decide +kernel) rfl rfl)) (da_cons (de_fz (cV c 1 rfl (by decide +kernel) rfl rfl)) da_nil)) (aCons_len (aCons_len aNil_len)) rfl rfl rfl))))))))))))
set_option maxHeartbeats 0 in
theorem d_undone {K : PySem.W.Frag} {F : Fns} {k : Nat} {X : Cx} (c : Ctx K infos free F k n_undone (defScope s_undone) (fun _ => true) X) : PSs X (defBody s_undone) (tDs X.K (m_undone F)) :=
  (dss_cons (cAsg c 1 rfl (by decide +kernel) rfl (cIx c (cV c 0 rfl (by decide +kernel) rfl rfl) de_int (fun _ _ => rfl)) rfl)
  (dss_cons (ds_if (tEq c (cV c 1 rfl (by decide +kernel) rfl rfl) (de_str (by decide))) (dss_one (ds_ret (cV c 0 rfl (by decide +kernel) rfl rfl))) dss_nil)
  (dss_cons (ds_if (tIn c (cV c 1 rfl (by decide +kernel) rfl rfl) (de_tup (da_cons (de_str (by decide)) (da_cons (de_str (by decide)) da_nil))) (by with_unfolding_all rfl)) (dss_one (ds_ret (de_tup (da_cons (de_fz (cV c 1 rfl (by decide +kernel) rfl rfl)) (da_cons (de_fz (cIx c (cV c 0 rfl (by decide +kernel) rfl rfl) de_int (fun _ _ => rfl))) (da_cons (de_fz (cIx c (cV c 0 rfl (by decide +kernel) rfl rfl) de_int (fun _ _ => rfl))) da_nil)))))) dss_nil)
  (dss_cons (ds_if (tEq c (cV c 1 rfl (by decide +kernel) rfl rfl) (de_str (by decide))) (dss_one (ds_ret (de_tup (da_cons (de_str (by decide)) (da_cons (de_fz (cCall c 7 rfl (by decide +kernel) (da_cons (de_fz (cIx c (cV c 0 rfl (by decide +kernel) rfl rfl) de_int (fun _ _ => rfl))) da_nil) (aCons_len aNil_len) rfl rfl rfl)) (da_cons (de_fz (cCall c 7 rfl (by decide +kernel) (da_cons (de_fz (cIx c (cV c 0 rfl (by decide +kernel) rfl rfl) de_int (fun _ _ => rfl))) da_nil) (aCons_len aNil_len) rfl rfl rfl)) da_nil)))))) dss_nil)
  (dss_cons (ds_if (tIn c (cV c 1 rfl (by decide +kernel) rfl rfl) (de_tup (da_cons (de_str (by decide)) (da_cons (de_str (by decide)) da_nil))) (by with_unfolding_all rfl)) (dss_one (ds_ret (de_tup (da_cons (de_fz (cV c 1 rfl (by decide +kernel) rfl rfl)) (da_cons (de_fz (cCall c 7 rfl (by decide +kernel) (da_cons (de_fz (cIx c (cV c 0 rfl (by decide +kernel) rfl rfl) de_int (fun _ _ => rfl))) da_nil) (aCons_len aNil_len) rfl rfl rfl)) (da_cons (de_fz (cCall c 7 rfl (by decide +kernel) (da_cons (de_fz (cIx c (cV c 0 rfl (by decide +kernel) rfl rfl) de_int (fun _ _ => rfl))) da_nil) (aCons_len aNil_len) rfl rfl rfl)) da_nil)))))) dss_nil)
  (dss_one (ds_ret (de_if (tEq c (cV c 1 rfl (by decide +kernel) rfl rfl) (de_str (by decide))) (cCall c 8 rfl (by decide +kernel) (da_cons (de_fz (cIx c (cV c 0 rfl (by decide +kernel) rfl rfl) de_int (fun _ _ => rfl))) da_nil) (aCons_len aNil_len) rfl rfl rfl) (de_tup (da_cons (de_str (by decide)) (da_cons (de_fz (cV c 0 rfl (by decide +kernel) rfl rfl)) da_nil)))))))))))
set_option maxHeartbeats 0 in
theorem d_without_undo {K : PySem.W.Frag} {F : Fns} {k : Nat} {X : Cx} (c : Ctx K infos free F k n_without_undo (defScope s_without_undo) (fun _ => true) X) : PSs X (defBody s_without_undo) (tDs X.K (m_without_undo F)) :=
  (dss_cons (cAsg c 1 rfl (by decide +kernel) rfl (cIx c (cV c 0 rfl (by decide +kernel) rfl rfl) de_int (fun _ _ => rfl)) rfl)
  (dss_cons (ds_if (tEq c (cV c 1 rfl (by decide +kernel) rfl rfl) (de_str (by decide))) (dss_one (ds_ret (cCall c 7 rfl (by decide +kernel) (da_cons (de_fz (cIx c (cV c 0 rfl (by decide +kernel) rfl rfl) de_int (fun _ _ => rfl))) da_nil) (aCons_len aNil_len) rfl rfl rfl))) dss_nil)
  (dss_cons (ds_if (tIn c (cV c 1 rfl (by decide +kernel) rfl rfl) (de_tup (da_cons (de_str (by decide)) (da_cons (de_str (by decide)) (da_cons (de_str (by decide)) da_nil)))) (by with_unfolding_all rfl)) (dss_one (ds_ret (de_tup (da_cons (de_fz (cV c 1 rfl (by decide +kernel) rfl rfl)) (da_cons (de_fz (cCall c 8 rfl (by decide +kernel) (da_cons (de_fz (cIx c (cV c 0 rfl (by decide +kernel) rfl rfl) de_int (fun _ _ => rfl))) da_nil) (aCons_len aNil_len) rfl rfl rfl)) (da_cons (de_fz (cCall c 8 rfl (by decide +kernel) (da_cons (de_fz (cIx c (cV c 0 rfl (by decide +kernel) rfl rfl) de_int (fun _ _ => rfl))) da_nil) (aCons_len aNil_len) rfl rfl rfl)) da_nil)))))) dss_nil)
  (dss_one (ds_ret (cV c 0 rfl (by decide +kernel) rfl rfl))))))
set_option maxHeartbeats 0 in
theorem d_law_draws {K : PySem.W.Frag} {F : Fns} {k : Nat} {X : Cx} (c : Ctx K infos free F k n_law_draws (defScope s_law_draws) (fun _ => true) X) : PSs X (defBody s_law_draws) (tDs X.K (m_law_draws F)) :=
  (dss_cons (cAsg c 2 rfl (by decide +kernel) rfl (de_lst da_nil) rfl)
  (dss_cons (cAsg c 3 rfl (by decide +kernel) rfl de_int rfl)
  (dss_cons (cFor c (di_range1 (cGl c (by decide +kernel)) (cFree c 0 rfl) (da_cons (cB c 1 call_len callS_len rfl (by decide +kernel) bt_len (by decide) rfl (da_cons (cV c 0 rfl (by decide +kernel) rfl rfl) da_nil) rfl rfl) da_nil)) (cPgN c 4 rfl (by decide +kernel) (by decide +kernel)) (dg_name 4) (dss_cons (cAsg c 5 rfl (by decide +kernel) rfl (cB c 2 call_abs callS_abs rfl (by decide +kernel) bt_abs (by decide) rfl (da_cons (cT c 3 call_int1 callS_int rfl (by decide +kernel) bt_int (by decide) rfl (da_cons (cIx c (cV c 0 rfl (by decide +kernel) rfl rfl) (cV c 4 rfl (by decide +kernel) rfl rfl) (fun _ _ => rfl)) da_nil) rfl rfl) da_nil) rfl rfl) rfl)
  (dss_cons (cAsg c 3 rfl (by decide +kernel) rfl (de_op op_mod opS_mod (cT c 3 call_int1 callS_int rfl (by decide +kernel) bt_int (by decide) rfl (da_cons (de_op op_add4 opS_add (de_op op_add4 opS_add (de_op op_mulW opS_mulI (cV c 3 rfl (by decide +kernel) rfl rfl) de_int) (de_op op_mod opS_mod (cV c 5 rfl (by decide +kernel) rfl rfl) de_int)) (cV c 4 rfl (by decide +kernel) rfl rfl)) da_nil) rfl rfl) de_int) rfl)
  (dss_cons (cAsg c 6 rfl (by decide +kernel) rfl de_int rfl)
  (dss_cons (ds_if (dt_cmp op_ge opS_geI (cV c 5 rfl (by decide +kernel) rfl rfl) (de_op op_pow opS_pow de_int de_int) (nomark _)) (dss_one (cAsg c 6 rfl (by decide +kernel) rfl (cV c 5 rfl (by decide +kernel) rfl rfl) rfl)) (dss_cons (cAppend c 2 rfl (by decide +kernel) rfl rfl (de_op op_mod opS_mod (cT c 3 call_int1 callS_int rfl (by decide +kernel) bt_int (by decide) rfl (da_cons (cV c 5 rfl (by decide +kernel) rfl rfl) da_nil) rfl rfl) de_int) rfl (fun h1 h2 => pe_bm PySem.F.plainAttrs_list PySem.F.slot_list_append PySem.F.type_list_append mt_append h1 h2) rfl rfl)
  (dss_one (cAppend c 2 rfl (by decide +kernel) rfl rfl (de_op op_mod opS_mod (de_op op_mod opS_mod (cT c 3 call_int1 callS_int rfl (by decide +kernel) bt_int (by decide) rfl (da_cons (de_op op_add4 opS_add (de_op op_mulW opS_mulI (cV c 3 rfl (by decide +kernel) rfl rfl) de_int) de_int) da_nil) rfl rfl) de_int) de_int) rfl (fun h1 h2 => pe_bm PySem.F.plainAttrs_list PySem.F.slot_list_append PySem.F.type_list_append mt_append h1 h2) rfl rfl))))
  (dss_cons (cFor c (di_range1 (cGl c (by decide +kernel)) (cFree c 0 rfl) (da_cons de_int da_nil)) (cPgN c 7 rfl (by decide +kernel) (by decide +kernel)) (dg_name 7) (dss_cons (ds_if (dt_cmp op_gt opS_gtI (cV c 6 rfl (by decide +kernel) rfl rfl) de_int (nomark _)) (dss_cons (cAppend c 2 rfl (by decide +kernel) rfl rfl (de_op op_mod opS_mod (cT c 3 call_int1 callS_int rfl (by decide +kernel) bt_int (by decide) rfl (da_cons (cV c 6 rfl (by decide +kernel) rfl rfl) da_nil) rfl rfl) de_int) rfl (fun h1 h2 => pe_bm PySem.F.plainAttrs_list PySem.F.slot_list_append PySem.F.type_list_append mt_append h1 h2) rfl rfl)
  (dss_one (cAsg c 6 rfl (by decide +kernel) rfl (de_op op_fdivW opS_div (cV c 6 rfl (by decide +kernel) rfl rfl) de_int) rfl))) dss_nil)
  (dss_forget [7] dss_nil)) (fun _ => rfl))
  (dss_forget [4, 5, 6, 7] dss_nil)))))) (fun _ => rfl))
  (dss_cons (cFor c (di_range1 (cGl c (by decide +kernel)) (cFree c 0 rfl) (da_cons (cV c 1 rfl (by decide +kernel) rfl rfl) da_nil)) (cPgN c 4 rfl (by decide +kernel) (by decide +kernel)) (dg_name 4) (dss_cons (cAsg c 3 rfl (by decide +kernel) rfl (de_op op_mod opS_mod (cT c 3 call_int1 callS_int rfl (by decide +kernel) bt_int (by decide) rfl (da_cons (de_op op_add4 opS_add (de_op op_add4 opS_add (de_op op_mulW opS_mulI (cV c 3 rfl (by decide +kernel) rfl rfl) de_int) (cV c 4 rfl (by decide +kernel) rfl rfl)) de_int) da_nil) rfl rfl) de_int) rfl)
  (dss_cons (cAppend c 2 rfl (by decide +kernel) rfl rfl (de_op op_mod opS_mod (cT c 3 call_int1 callS_int rfl (by decide +kernel) bt_int (by decide) rfl (da_cons (cV c 3 rfl (by decide +kernel) rfl rfl) da_nil) rfl rfl) de_int) rfl (fun h1 h2 => pe_bm PySem.F.plainAttrs_list PySem.F.slot_list_append PySem.F.type_list_append mt_append h1 h2) rfl rfl)
  (dss_forget [4] dss_nil))) (fun _ => rfl))
  (dss_one (ds_ret (de_slice (cV c 2 rfl (by decide +kernel) rfl rfl) do_none (do_some (cV c 1 rfl (by decide +kernel) rfl rfl)))))))))
set_option maxHeartbeats 0 in
theorem d_law_next {K : PySem.W.Frag} {F : Fns} {k : Nat} {X : Cx} (c : Ctx K infos free F k n_law_next (defScope s_law_next) (fun _ => true) X) : PSs X (defBody s_law_next) (tDs X.K (m_law_next F)) :=
  (dss_cons (cDAug c (cV c 0 rfl (by decide +kernel) rfl rfl) (de_str (by decide)) de_int iop_add opS_addI (fun _ _ _ => rfl))
  (dss_cons (ds_if (dt_cmp op_gt opS_gtI (cIx c (cV c 0 rfl (by decide +kernel) rfl rfl) (de_str (by decide)) (fun _ _ => rfl)) (cB c 1 call_len callS_len rfl (by decide +kernel) bt_len (by decide) rfl (da_cons (cIx c (cV c 0 rfl (by decide +kernel) rfl rfl) (de_str (by decide)) (fun _ _ => rfl)) da_nil) rfl rfl) (nomark _)) (dss_one (ds_ret de_int)) dss_nil)
  (dss_one (ds_ret (de_op op_mod opS_mod (cT c 3 call_int1 callS_int rfl (by decide +kernel) bt_int (by decide) rfl (da_cons (cIx c (cIx c (cV c 0 rfl (by decide +kernel) rfl rfl) (de_str (by decide)) (fun _ _ => rfl)) (de_op op_sub opS_sub (cIx c (cV c 0 rfl (by decide +kernel) rfl rfl) (de_str (by decide)) (fun _ _ => rfl)) de_int) (fun _ _ => rfl)) da_nil) rfl rfl) (cV c 1 rfl (by decide +kernel) rfl rfl))))))
set_option maxHeartbeats 0 in
theorem d_law_pick {K : PySem.W.Frag} {F : Fns} {k : Nat} {X : Cx} (c : Ctx K infos free F k n_law_pick (defScope s_law_pick) (fun _ => true) X) : PSs X (defBody s_law_pick) (tDs X.K (m_law_pick F)) :=
  (dss_one (ds_ret (cIx c (cV c 1 rfl (by decide +kernel) rfl rfl) (cCall c 10 rfl (by decide +kernel) (da_cons (de_fz (cV c 0 rfl (by decide +kernel) rfl rfl)) (da_cons (de_fz (cB c 1 call_len callS_len rfl (by decide +kernel) bt_len (by decide) rfl (da_cons (cV c 1 rfl (by decide +kernel) rfl rfl) da_nil) rfl rfl)) da_nil)) (aCons_len (aCons_len aNil_len)) rfl rfl rfl) (fun _ _ => rfl))))
set_option maxHeartbeats 0 in
theorem d_law_alike {K : PySem.W.Frag} {F : Fns} {k : Nat} {X : Cx} (c : Ctx K infos free F k n_law_alike (defScope s_law_alike) (fun _ => true) X) : PSs X (defBody s_law_alike) (tDs X.K (m_law_alike F)) :=
  (dss_cons (ds_if (dt_tru (de_isi (cGl c (by decide +kernel)) (cFree c 4 rfl) (cGl c (by decide +kernel)) (cFree c 5 rfl) bt_tuple (cV c 1 rfl (by decide +kernel) rfl rfl))) (dss_cons (ds_if (PW.pt (dw_or (dt_not (dt_tru (de_isi (cGl c (by decide +kernel)) (cFree c 4 rfl) (cGl c (by decide +kernel)) (cFree c 5 rfl) bt_tuple (cV c 0 rfl (by decide +kernel) rfl rfl)))) (dw_or1 (tNe c (cB c 1 call_len callS_len rfl (by decide +kernel) bt_len (by decide) rfl (da_cons (cV c 0 rfl (by decide +kernel) rfl rfl) da_nil) rfl rfl) (cB c 1 call_len callS_len rfl (by decide +kernel) bt_len (by decide) rfl (da_cons (cV c 1 rfl (by decide +kernel) rfl rfl) da_nil) rfl rfl))))) (dss_one (ds_ret de_bl)) dss_nil)
  (dss_one (ds_ret (cEq c (cLc c [("k", 2)] (by decide +kernel) (di_range1 (cGl c (by decide +kernel)) (cFree c 0 rfl) (da_cons (cB c 1 call_len callS_len rfl (by decide +kernel) bt_len (by decide) rfl (da_cons (cV c 1 rfl (by decide +kernel) rfl rfl) da_nil) rfl rfl) da_nil)) (dg_name 2) (fun Y1 d1 hY1 => ⟨(cPgN d1 2 rfl (by decide +kernel) (by decide +kernel)), (pts_one (dt_not (dt_tru (cCall d1 12 rfl (by decide +kernel) (da_cons (de_fz (cIx d1 (cV d1 0 rfl (by decide +kernel) rfl rfl) (cV d1 2 rfl (by decide +kernel) rfl rfl) (fun _ _ => rfl))) (da_cons (de_fz (cIx d1 (cV d1 1 rfl (by decide +kernel) rfl rfl) (cV d1 2 rfl (by decide +kernel) rfl rfl) (fun _ _ => rfl))) da_nil)) (aCons_len (aCons_len aNil_len)) rfl rfl rfl)))), (cV d1 2 rfl (by decide +kernel) rfl rfl)⟩) (fun _ => rfl)) (de_lst da_nil))))) dss_nil)
  (dss_cons (ds_if (dt_cmp op_isN opS_isN (cV c 1 rfl (by decide +kernel) rfl rfl) de_non (nomark _)) (dss_one (ds_ret (de_cmp op_isN opS_isN (cV c 0 rfl (by decide +kernel) rfl rfl) de_non (nomark _)))) dss_nil)
  (dss_cons (ds_if (dt_tru (de_isi (cGl c (by decide +kernel)) (cFree c 4 rfl) (cGl c (by decide +kernel)) (cFree c 6 rfl) bt_bool (cV c 1 rfl (by decide +kernel) rfl rfl))) (dss_one (ds_ret (de_and (de_isi (cGl c (by decide +kernel)) (cFree c 4 rfl) (cGl c (by decide +kernel)) (cFree c 6 rfl) bt_bool (cV c 0 rfl (by decide +kernel) rfl rfl)) (de_one (cEq c (cV c 0 rfl (by decide +kernel) rfl rfl) (cV c 1 rfl (by decide +kernel) rfl rfl)))))) dss_nil)
  (dss_cons (ds_if (dt_tru (de_isi (cGl c (by decide +kernel)) (cFree c 4 rfl) (cGl c (by decide +kernel)) (cFree c 3 rfl) bt_int (cV c 1 rfl (by decide +kernel) rfl rfl))) (dss_one (ds_ret (de_and (de_isi (cGl c (by decide +kernel)) (cFree c 4 rfl) (cGl c (by decide +kernel)) (cFree c 3 rfl) bt_int (cV c 0 rfl (by decide +kernel) rfl rfl)) (de_and (de_not (de_isi (cGl c (by decide +kernel)) (cFree c 4 rfl) (cGl c (by decide +kernel)) (cFree c 6 rfl) bt_bool (cV c 0 rfl (by decide +kernel) rfl rfl))) (de_one (cEq c (cV c 0 rfl (by decide +kernel) rfl rfl) (cV c 1 rfl (by decide +kernel) rfl rfl))))))) dss_nil)
  (dss_one (ds_ret (de_and (de_isi (cGl c (by decide +kernel)) (cFree c 4 rfl) (cGl c (by decide +kernel)) (cFree c 7 rfl) bt_str (cV c 0 rfl (by decide +kernel) rfl rfl)) (de_one (cEq c (cV c 0 rfl (by decide +kernel) rfl rfl) (cV c 1 rfl (by decide +kernel) rfl rfl))))))))))
set_option maxHeartbeats 0 in
theorem d_law_type {K : PySem.W.Frag} {F : Fns} {k : Nat} {X : Cx} (c : Ctx K infos free F k n_law_type (defScope s_law_type) (fun _ => true) X) : PSs X (defBody s_law_type) (tDs X.K (m_law_type F)) :=
  (dss_cons (ds_if (PW.pt (dw_or (tEq c (cV c 1 rfl (by decide +kernel) rfl rfl) de_int) (dw_or1 (tEq c (cCall c 10 rfl (by decide +kernel) (da_cons (de_fz (cV c 0 rfl (by decide +kernel) rfl rfl)) (da_cons de_int da_nil)) (aCons_len (aCons_len aNil_len)) rfl rfl rfl) de_int)))) (dss_one (ds_ret (de_tup (da_cons (de_str (by decide)) da_nil)))) dss_nil)
  (dss_cons (cAsg c 2 rfl (by decide +kernel) rfl (cCall c 13 rfl (by decide +kernel) (da_cons (de_fz (cV c 0 rfl (by decide +kernel) rfl rfl)) (da_cons (de_fz (de_op op_sub opS_sub (cV c 1 rfl (by decide +kernel) rfl rfl) de_int)) da_nil)) (aCons_len (aCons_len aNil_len)) rfl rfl rfl) rfl)
  (dss_one (ds_ret (de_tup (da_cons (de_fz (cCall c 11 rfl (by decide +kernel) (da_cons (de_fz (cV c 0 rfl (by decide +kernel) rfl rfl)) (da_cons (de_fz (de_lst (da_cons (de_str (by decide)) (da_cons (de_str (by decide)) (da_cons (de_str (by decide)) da_nil))))) da_nil)) (aCons_len (aCons_len aNil_len)) rfl rfl rfl)) (da_cons (de_fz (cV c 2 rfl (by decide +kernel) rfl rfl)) (da_cons (de_fz (cCall c 13 rfl (by decide +kernel) (da_cons (de_fz (cV c 0 rfl (by decide +kernel) rfl rfl)) (da_cons (de_fz (de_op op_sub opS_sub (cV c 1 rfl (by decide +kernel) rfl rfl) de_int)) da_nil)) (aCons_len (aCons_len aNil_len)) rfl rfl rfl)) da_nil))))))))
set_option maxHeartbeats 0 in
theorem d_law_values {K : PySem.W.Frag} {F : Fns} {k : Nat} {X : Cx} (c : Ctx K infos free F k n_law_values (defScope s_law_values) (fun _ => true) X) : PSs X (defBody s_law_values) (tDs X.K (m_law_values F)) :=
  (dss_cons (ds_if (tEq c (cIx c (cV c 0 rfl (by decide +kernel) rfl rfl) de_int (fun _ _ => rfl)) (de_str (by decide))) (dss_one (ds_ret (de_lst (da_cons (de_np (de_tup da_nil)) da_nil)))) dss_nil)
  (dss_cons (cAsg c 1 rfl (by decide +kernel) rfl (de_lst da_nil) rfl)
  (dss_cons (ds_if (tEq c (cIx c (cV c 0 rfl (by decide +kernel) rfl rfl) de_int (fun _ _ => rfl)) (de_str (by decide))) (dss_one (ds_ret (de_op op_add4 opS_add (cLc c [("x", 2)] (by decide +kernel) (di_of (cCall c 14 rfl (by decide +kernel) (da_cons (de_fz (cIx c (cV c 0 rfl (by decide +kernel) rfl rfl) de_int (fun _ _ => rfl))) da_nil) (aCons_len aNil_len) rfl rfl rfl)) (dg_name 2) (fun Y1 d1 hY1 => ⟨(cPgN d1 2 rfl (by decide +kernel) (by decide +kernel)), dts_nil, (de_tup (da_cons (de_str (by decide)) (da_cons (de_fz (cV d1 2 rfl (by decide +kernel) rfl rfl)) da_nil)))⟩) (fun _ => rfl)) (cLc c [("y", 3)] (by decide +kernel) (di_of (cCall c 14 rfl (by decide +kernel) (da_cons (de_fz (cIx c (cV c 0 rfl (by decide +kernel) rfl rfl) de_int (fun _ _ => rfl))) da_nil) (aCons_len aNil_len) rfl rfl rfl)) (dg_name 3) (fun Y1 d1 hY1 => ⟨(cPgN d1 3 rfl (by decide +kernel) (by decide +kernel)), dts_nil, (de_tup (da_cons (de_str (by decide)) (da_cons (de_fz (cV d1 3 rfl (by decide +kernel) rfl rfl)) da_nil)))⟩) (fun _ => rfl))))) dss_nil)
  (dss_cons (cFor c (di_of (cCall c 14 rfl (by decide +kernel) (da_cons (de_fz (cIx c (cV c 0 rfl (by decide +kernel) rfl rfl) de_int (fun _ _ => rfl))) da_nil) (aCons_len aNil_len) rfl rfl rfl)) (cPgN c 2 rfl (by decide +kernel) (by decide +kernel)) (dg_name 2) (dss_cons (cAsg c 1 rfl (by decide +kernel) rfl (de_op op_add4 opS_add (cV c 1 rfl (by decide +kernel) rfl rfl) (cLc c [("y", 3)] (by decide +kernel) (di_of (cCall c 14 rfl (by decide +kernel) (da_cons (de_fz (cIx c (cV c 0 rfl (by decide +kernel) rfl rfl) de_int (fun _ _ => rfl))) da_nil) (aCons_len aNil_len) rfl rfl rfl)) (dg_name 3) (fun Y1 d1 hY1 => ⟨(cPgN d1 3 rfl (by decide +kernel) (by decide +kernel)), dts_nil, (de_tup (da_cons (de_fz (cV d1 2 rfl (by decide +kernel) rfl rfl)) (da_cons (de_fz (cV d1 3 rfl (by decide +kernel) rfl rfl)) da_nil)))⟩) (fun _ => rfl))) rfl)
  (dss_forget [2] dss_nil)) (fun _ => rfl))
  (dss_one (ds_ret (cV c 1 rfl (by decide +kernel) rfl rfl)))))))
set_option maxHeartbeats 0 in
theorem d_law_program {K : PySem.W.Frag} {F : Fns} {k : Nat} {X : Cx} (c : Ctx K infos free F k n_law_program (defScope s_law_program) (fun _ => true) X) : PSs X (defBody s_law_program) (tDs X.K (m_law_program F)) :=
  (dss_cons (cAsg c 3 rfl (by decide +kernel) rfl (de_lst (da_cons (de_np (de_tup (da_cons (de_str (by decide)) (da_cons (de_fz (cV c 1 rfl (by decide +kernel) rfl rfl)) da_nil)))) da_nil)) rfl)
  (dss_cons (ds_if (tEq c (cIx c (cV c 1 rfl (by decide +kernel) rfl rfl) de_int (fun _ _ => rfl)) (de_str (by decide))) (dss_cons (cAppend c 3 rfl (by decide +kernel) rfl rfl (de_tup (da_cons (de_str (by decide)) (da_cons (de_fz (cIx c (cV c 1 rfl (by decide +kernel) rfl rfl) de_int (fun _ _ => rfl))) (da_cons (de_fz (cIx c (cV c 1 rfl (by decide +kernel) rfl rfl) de_int (fun _ _ => rfl))) da_nil)))) rfl (fun h1 h2 => pe_bm PySem.F.plainAttrs_list PySem.F.slot_list_append PySem.F.type_list_append mt_append h1 h2) rfl rfl)
  (dss_cons (ds_if (tEq c (cIx c (cIx c (cV c 1 rfl (by decide +kernel) rfl rfl) de_int (fun _ _ => rfl)) de_int (fun _ _ => rfl)) (de_str (by decide))) (dss_one (cAppend c 3 rfl (by decide +kernel) rfl rfl (de_tup (da_cons (de_str (by decide)) (da_cons (de_fz (cIx c (cIx c (cV c 1 rfl (by decide +kernel) rfl rfl) de_int (fun _ _ => rfl)) de_int (fun _ _ => rfl))) (da_cons (de_fz (cIx c (cIx c (cV c 1 rfl (by decide +kernel) rfl rfl) de_int (fun _ _ => rfl)) de_int (fun _ _ => rfl))) (da_cons (de_fz (cIx c (cV c 1 rfl (by decide +kernel) rfl rfl) de_int (fun _ _ => rfl))) da_nil))))) rfl (fun h1 h2 => pe_bm PySem.F.plainAttrs_list PySem.F.slot_list_append PySem.F.type_list_append mt_append h1 h2) rfl rfl)) dss_nil)
  (dss_cons (ds_if (tEq c (cIx c (cIx c (cV c 1 rfl (by decide +kernel) rfl rfl) de_int (fun _ _ => rfl)) de_int (fun _ _ => rfl)) (de_str (by decide))) (dss_one (cAppend c 3 rfl (by decide +kernel) rfl rfl (de_tup (da_cons (de_str (by decide)) (da_cons (de_fz (de_tup (da_cons (de_str (by decide)) (da_cons (de_fz (cIx c (cV c 1 rfl (by decide +kernel) rfl rfl) de_int (fun _ _ => rfl))) (da_cons (de_fz (cIx c (cIx c (cV c 1 rfl (by decide +kernel) rfl rfl) de_int (fun _ _ => rfl)) de_int (fun _ _ => rfl))) (da_cons (de_fz (cIx c (cIx c (cV c 1 rfl (by decide +kernel) rfl rfl) de_int (fun _ _ => rfl)) de_int (fun _ _ => rfl))) da_nil)))))) da_nil))) rfl (fun h1 h2 => pe_bm PySem.F.plainAttrs_list PySem.F.slot_list_append PySem.F.type_list_append mt_append h1 h2) rfl rfl)) dss_nil)
  (dss_one (ds_if (PW.pt (dw_and (tEq c (cIx c (cIx c (cV c 1 rfl (by decide +kernel) rfl rfl) de_int (fun _ _ => rfl)) de_int (fun _ _ => rfl)) (de_str (by decide))) (dw_and (tEq c (cIx c (cIx c (cV c 1 rfl (by decide +kernel) rfl rfl) de_int (fun _ _ => rfl)) de_int (fun _ _ => rfl)) (de_str (by decide))) (dw_and1 (tEq c (cIx c (cIx c (cV c 1 rfl (by decide +kernel) rfl rfl) de_int (fun _ _ => rfl)) de_int (fun _ _ => rfl)) (cIx c (cIx c (cV c 1 rfl (by decide +kernel) rfl rfl) de_int (fun _ _ => rfl)) de_int (fun _ _ => rfl))))))) (dss_one (cAppend c 3 rfl (by decide +kernel) rfl rfl (de_tup (da_cons (de_str (by decide)) (da_cons (de_fz (de_tup (da_cons (de_str (by decide)) (da_cons (de_fz (cIx c (cIx c (cV c 1 rfl (by decide +kernel) rfl rfl) de_int (fun _ _ => rfl)) de_int (fun _ _ => rfl))) (da_cons (de_fz (cIx c (cIx c (cV c 1 rfl (by decide +kernel) rfl rfl) de_int (fun _ _ => rfl)) de_int (fun _ _ => rfl))) (da_cons (de_fz (cIx c (cIx c (cV c 1 rfl (by decide +kernel) rfl rfl) de_int (fun _ _ => rfl)) de_int (fun _ _ => rfl))) da_nil)))))) da_nil))) rfl (fun h1 h2 => pe_bm PySem.F.plainAttrs_list PySem.F.slot_list_append PySem.F.type_list_append mt_append h1 h2) rfl rfl)) dss_nil))))) dss_nil)
  (dss_cons (ds_if (tEq c (cIx c (cV c 1 rfl (by decide +kernel) rfl rfl) de_int (fun _ _ => rfl)) (de_str (by decide))) (dss_cons (cAppend c 3 rfl (by decide +kernel) rfl rfl (de_tup (da_cons (de_str (by decide)) (da_cons (de_fz (cIx c (cV c 1 rfl (by decide +kernel) rfl rfl) de_int (fun _ _ => rfl))) (da_cons (de_fz (cIx c (cV c 1 rfl (by decide +kernel) rfl rfl) de_int (fun _ _ => rfl))) da_nil)))) rfl (fun h1 h2 => pe_bm PySem.F.plainAttrs_list PySem.F.slot_list_append PySem.F.type_list_append mt_append h1 h2) rfl rfl)
  (dss_cons (ds_if (tEq c (cIx c (cIx c (cV c 1 rfl (by decide +kernel) rfl rfl) de_int (fun _ _ => rfl)) de_int (fun _ _ => rfl)) (de_str (by decide))) (dss_one (cAppend c 3 rfl (by decide +kernel) rfl rfl (de_tup (da_cons (de_str (by decide)) (da_cons (de_fz (cIx c (cIx c (cV c 1 rfl (by decide +kernel) rfl rfl) de_int (fun _ _ => rfl)) de_int (fun _ _ => rfl))) (da_cons (de_fz (cIx c (cIx c (cV c 1 rfl (by decide +kernel) rfl rfl) de_int (fun _ _ => rfl)) de_int (fun _ _ => rfl))) (da_cons (de_fz (cIx c (cV c 1 rfl (by decide +kernel) rfl rfl) de_int (fun _ _ => rfl))) da_nil))))) rfl (fun h1 h2 => pe_bm PySem.F.plainAttrs_list PySem.F.slot_list_append PySem.F.type_list_append mt_append h1 h2) rfl rfl)) dss_nil)
  (dss_cons (ds_if (tEq c (cIx c (cIx c (cV c 1 rfl (by decide +kernel) rfl rfl) de_int (fun _ _ => rfl)) de_int (fun _ _ => rfl)) (de_str (by decide))) (dss_one (cAppend c 3 rfl (by decide +kernel) rfl rfl (de_tup (da_cons (de_str (by decide)) (da_cons (de_fz (de_tup (da_cons (de_str (by decide)) (da_cons (de_fz (cIx c (cV c 1 rfl (by decide +kernel) rfl rfl) de_int (fun _ _ => rfl))) (da_cons (de_fz (cIx c (cIx c (cV c 1 rfl (by decide +kernel) rfl rfl) de_int (fun _ _ => rfl)) de_int (fun _ _ => rfl))) (da_cons (de_fz (cIx c (cIx c (cV c 1 rfl (by decide +kernel) rfl rfl) de_int (fun _ _ => rfl)) de_int (fun _ _ => rfl))) da_nil)))))) da_nil))) rfl (fun h1 h2 => pe_bm PySem.F.plainAttrs_list PySem.F.slot_list_append PySem.F.type_list_append mt_append h1 h2) rfl rfl)) dss_nil)
  (dss_cons (ds_if (tEq c (cIx c (cIx c (cV c 1 rfl (by decide +kernel) rfl rfl) de_int (fun _ _ => rfl)) de_int (fun _ _ => rfl)) (de_str (by decide))) (dss_one (cAppend c 3 rfl (by decide +kernel) rfl rfl (de_tup (da_cons (de_str (by decide)) (da_cons (de_fz (cIx c (cIx c (cV c 1 rfl (by decide +kernel) rfl rfl) de_int (fun _ _ => rfl)) de_int (fun _ _ => rfl))) (da_cons (de_fz (cIx c (cIx c (cV c 1 rfl (by decide +kernel) rfl rfl) de_int (fun _ _ => rfl)) de_int (fun _ _ => rfl))) (da_cons (de_fz (cIx c (cV c 1 rfl (by decide +kernel) rfl rfl) de_int (fun _ _ => rfl))) da_nil))))) rfl (fun h1 h2 => pe_bm PySem.F.plainAttrs_list PySem.F.slot_list_append PySem.F.type_list_append mt_append h1 h2) rfl rfl)) dss_nil)
  (dss_one (ds_if (tEq c (cIx c (cV c 1 rfl (by decide +kernel) rfl rfl) de_int (fun _ _ => rfl)) (de_tup (da_cons (de_str (by decide)) da_nil))) (dss_one (cAppend c 3 rfl (by decide +kernel) rfl rfl (de_tup (da_cons (de_str (by decide)) (da_cons (de_fz (cIx c (cV c 1 rfl (by decide +kernel) rfl rfl) de_int (fun _ _ => rfl))) da_nil))) rfl (fun h1 h2 => pe_bm PySem.F.plainAttrs_list PySem.F.slot_list_append PySem.F.type_list_append mt_append h1 h2) rfl rfl)) dss_nil)))))) dss_nil)
  (dss_cons (cAppend c 3 rfl (by decide +kernel) rfl rfl (de_tup (da_cons (de_str (by decide)) (da_cons (de_fz (de_tup (da_cons (de_str (by decide)) (da_cons (de_fz (cV c 1 rfl (by decide +kernel) rfl rfl)) da_nil)))) da_nil))) rfl (fun h1 h2 => pe_bm PySem.F.plainAttrs_list PySem.F.slot_list_append PySem.F.type_list_append mt_append h1 h2) rfl rfl)
  (dss_cons (cAsg c 4 rfl (by decide +kernel) rfl (de_if (dt_cmp op_gt opS_gtI (cV c 2 rfl (by decide +kernel) rfl rfl) de_int (nomark _)) (cCall c 10 rfl (by decide +kernel) (da_cons (de_fz (cV c 0 rfl (by decide +kernel) rfl rfl)) (da_cons de_int da_nil)) (aCons_len (aCons_len aNil_len)) rfl rfl rfl) de_int) rfl)
  (dss_cons (ds_if (tEq c (cV c 4 rfl (by decide +kernel) rfl rfl) de_int) (dss_cons (cAsg c 5 rfl (by decide +kernel) rfl (cCall c 15 rfl (by decide +kernel) (da_cons (de_fz (cV c 0 rfl (by decide +kernel) rfl rfl)) (da_cons (de_fz (cV c 1 rfl (by decide +kernel) rfl rfl)) (da_cons (de_fz (de_op op_sub opS_sub (cV c 2 rfl (by decide +kernel) rfl rfl) de_int)) da_nil))) (aCons_len (aCons_len (aCons_len aNil_len))) rfl rfl rfl) rfl)
  (dss_one (ds_ret (de_tup (da_cons (de_str (by decide)) (da_cons (de_fz (cV c 5 rfl (by decide +kernel) rfl rfl)) (da_cons (de_fz (cCall c 15 rfl (by decide +kernel) (da_cons (de_fz (cV c 0 rfl (by decide +kernel) rfl rfl)) (da_cons (de_fz (cIx c (cCall c 16 rfl (by decide +kernel) (da_cons (de_fz (cV c 5 rfl (by decide +kernel) rfl rfl)) da_nil) (aCons_len aNil_len) rfl rfl rfl) de_int (fun _ _ => rfl))) (da_cons (de_fz (de_op op_sub opS_sub (cV c 2 rfl (by decide +kernel) rfl rfl) de_int)) da_nil))) (aCons_len (aCons_len (aCons_len aNil_len))) rfl rfl rfl)) da_nil))))))) dss_nil)
  (dss_cons (ds_if (PW.pt (dw_and (tEq c (cV c 4 rfl (by decide +kernel) rfl rfl) de_int) (dw_and1 (tNe c (cIx c (cV c 1 rfl (by decide +kernel) rfl rfl) de_int (fun _ _ => rfl)) (de_str (by decide)))))) (dss_cons (cAsg c 5 rfl (by decide +kernel) rfl (cCall c 15 rfl (by decide +kernel) (da_cons (de_fz (cV c 0 rfl (by decide +kernel) rfl rfl)) (da_cons (de_fz (cIx c (cV c 1 rfl (by decide +kernel) rfl rfl) de_int (fun _ _ => rfl))) (da_cons (de_fz (de_op op_sub opS_sub (cV c 2 rfl (by decide +kernel) rfl rfl) de_int)) da_nil))) (aCons_len (aCons_len (aCons_len aNil_len))) rfl rfl rfl) rfl)
  (dss_one (ds_ret (de_tup (da_cons (de_fz (de_if (tEq c (cIx c (cV c 1 rfl (by decide +kernel) rfl rfl) de_int (fun _ _ => rfl)) (de_str (by decide))) (de_str (by decide)) (de_str (by decide)))) (da_cons (de_fz (cV c 5 rfl (by decide +kernel) rfl rfl)) (da_cons (de_fz (cCall c 15 rfl (by decide +kernel) (da_cons (de_fz (cV c 0 rfl (by decide +kernel) rfl rfl)) (da_cons (de_fz (cIx c (cV c 1 rfl (by decide +kernel) rfl rfl) de_int (fun _ _ => rfl))) (da_cons (de_fz (de_op op_sub opS_sub (cV c 2 rfl (by decide +kernel) rfl rfl) de_int)) da_nil))) (aCons_len (aCons_len (aCons_len aNil_len))) rfl rfl rfl)) da_nil))))))) dss_nil)
  (dss_one (ds_ret (cCall c 11 rfl (by decide +kernel) (da_cons (de_fz (cV c 0 rfl (by decide +kernel) rfl rfl)) (da_cons (de_fz (cV c 3 rfl (by decide +kernel) rfl rfl)) da_nil)) (aCons_len (aCons_len aNil_len)) rfl rfl rfl))))))))))
set_option maxHeartbeats 0 in
theorem d_law_types {K : PySem.W.Frag} {F : Fns} {k : Nat} {X : Cx} (c : Ctx K infos free F k n_law_types (defScope s_law_types) (fun _ => true) X) : PSs X (defBody s_law_types) (tDs X.K (m_law_types F)) :=
  (dss_cons (cAsg c 1 rfl (by decide +kernel) rfl (cIx c (cV c 0 rfl (by decide +kernel) rfl rfl) de_int (fun _ _ => rfl)) rfl)
  (dss_cons (ds_if (tEq c (cV c 1 rfl (by decide +kernel) rfl rfl) (de_str (by decide))) (dss_cons (cAsg c 2 rfl (by decide +kernel) rfl (cCall c 16 rfl (by decide +kernel) (da_cons (de_fz (cIx c (cV c 0 rfl (by decide +kernel) rfl rfl) de_int (fun _ _ => rfl))) da_nil) (aCons_len aNil_len) rfl rfl rfl) rfl)
  (dss_one (ds_ret (de_if (dt_cmp op_notN opS_notN (cV c 2 rfl (by decide +kernel) rfl rfl) de_non (nomark _)) (de_rev (cV c 2 rfl (by decide +kernel) rfl rfl)) de_non)))) dss_nil)
  (dss_cons (ds_if (tIn c (cV c 1 rfl (by decide +kernel) rfl rfl) (de_tup (da_cons (de_str (by decide)) (da_cons (de_str (by decide)) (da_cons (de_str (by decide)) da_nil)))) (by with_unfolding_all rfl)) (dss_cons (cPar c 3 4 rfl rfl (by decide) (by decide +kernel) (by decide +kernel) (da_cons (de_np (cCall c 16 rfl (by decide +kernel) (da_cons (de_fz (cIx c (cV c 0 rfl (by decide +kernel) rfl rfl) de_int (fun _ _ => rfl))) da_nil) (aCons_len aNil_len) rfl rfl rfl)) (da_cons (de_np (cCall c 16 rfl (by decide +kernel) (da_cons (de_fz (cIx c (cV c 0 rfl (by decide +kernel) rfl rfl) de_int (fun _ _ => rfl))) da_nil) (aCons_len aNil_len) rfl rfl rfl)) da_nil)) (sw_par (by rw [(c).sc_]; rfl) (by rw [(c).sc_]; decide +kernel) (by rw [(c).sc_]; decide +kernel) rfl rfl rfl rfl rfl rfl) rfl)
  (dss_cons (ds_if (PW.pt (dw_or (dt_cmp op_isN opS_isN (cV c 3 rfl (by decide +kernel) rfl rfl) de_non (nomark _)) (dw_or1 (dt_cmp op_isN opS_isN (cV c 4 rfl (by decide +kernel) rfl rfl) de_non (nomark _))))) (dss_one (ds_ret de_non)) dss_nil)
  (dss_cons (ds_if (tEq c (cV c 1 rfl (by decide +kernel) rfl rfl) (de_str (by decide))) (dss_one (ds_ret (de_if (tEq c (cIx c (cV c 3 rfl (by decide +kernel) rfl rfl) de_int (fun _ _ => rfl)) (cIx c (cV c 4 rfl (by decide +kernel) rfl rfl) de_int (fun _ _ => rfl))) (de_tup (da_cons (de_fz (cIx c (cV c 3 rfl (by decide +kernel) rfl rfl) de_int (fun _ _ => rfl))) (da_cons (de_fz (cIx c (cV c 4 rfl (by decide +kernel) rfl rfl) de_int (fun _ _ => rfl))) da_nil))) de_non))) dss_nil)
  (dss_cons (cAsg c 5 rfl (by decide +kernel) rfl (de_if (tEq c (cV c 1 rfl (by decide +kernel) rfl rfl) (de_str (by decide))) (de_str (by decide)) (de_str (by decide))) rfl)
  (dss_one (ds_ret (de_tup (da_cons (de_fz (de_tup (da_cons (de_fz (cV c 5 rfl (by decide +kernel) rfl rfl)) (da_cons (de_fz (cIx c (cV c 3 rfl (by decide +kernel) rfl rfl) de_int (fun _ _ => rfl))) (da_cons (de_fz (cIx c (cV c 4 rfl (by decide +kernel) rfl rfl) de_int (fun _ _ => rfl))) da_nil))))) (da_cons (de_fz (de_tup (da_cons (de_fz (cV c 5 rfl (by decide +kernel) rfl rfl)) (da_cons (de_fz (cIx c (cV c 3 rfl (by decide +kernel) rfl rfl) de_int (fun _ _ => rfl))) (da_cons (de_fz (cIx c (cV c 4 rfl (by decide +kernel) rfl rfl) de_int (fun _ _ => rfl))) da_nil))))) da_nil))))))))) dss_nil)
  (dss_cons (cAsg c 6 rfl (by decide +kernel) rfl (cIx c (cV c 0 rfl (by decide +kernel) rfl rfl) de_int (fun _ _ => rfl)) rfl)
  (dss_cons (ds_if (tIn c (cV c 1 rfl (by decide +kernel) rfl rfl) (de_tup (da_cons (de_str (by decide)) (da_cons (de_str (by decide)) da_nil))) (by with_unfolding_all rfl)) (dss_one (ds_ret (de_if (tEq c (cV c 1 rfl (by decide +kernel) rfl rfl) (de_str (by decide))) (de_tup (da_cons (de_fz (cV c 6 rfl (by decide +kernel) rfl rfl)) (da_cons (de_fz (cV c 6 rfl (by decide +kernel) rfl rfl)) da_nil))) (de_tup (da_cons (de_fz (de_tup (da_cons (de_str (by decide)) (da_cons (de_fz (de_tup (da_cons (de_str (by decide)) da_nil))) (da_cons (de_fz (cV c 6 rfl (by decide +kernel) rfl rfl)) da_nil))))) (da_cons (de_fz (cV c 6 rfl (by decide +kernel) rfl rfl)) da_nil)))))) dss_nil)
  (dss_cons (cAsg c 7 rfl (by decide +kernel) rfl (cIx c (cV c 0 rfl (by decide +kernel) rfl rfl) de_int (fun _ _ => rfl)) rfl)
  (dss_cons (ds_if (tIn c (cV c 1 rfl (by decide +kernel) rfl rfl) (de_tup (da_cons (de_str (by decide)) (da_cons (de_str (by decide)) da_nil))) (by with_unfolding_all rfl)) (dss_cons (cAsg c 5 rfl (by decide +kernel) rfl (de_slice (cV c 1 rfl (by decide +kernel) rfl rfl) (do_some de_int) do_none) rfl)
  (dss_one (ds_ret (de_tup (da_cons (de_fz (de_tup (da_cons (de_fz (cV c 5 rfl (by decide +kernel) rfl rfl)) (da_cons (de_fz (cV c 6 rfl (by decide +kernel) rfl rfl)) (da_cons (de_fz (cV c 7 rfl (by decide +kernel) rfl rfl)) da_nil))))) (da_cons (de_fz (de_tup (da_cons (de_fz (cV c 5 rfl (by decide +kernel) rfl rfl)) (da_cons (de_fz (cV c 7 rfl (by decide +kernel) rfl rfl)) (da_cons (de_fz (cV c 6 rfl (by decide +kernel) rfl rfl)) da_nil))))) da_nil)))))) dss_nil)
  (dss_cons (cAsg c 8 rfl (by decide +kernel) rfl (cIx c (cV c 0 rfl (by decide +kernel) rfl rfl) de_int (fun _ _ => rfl)) rfl)
  (dss_cons (ds_if (tEq c (cV c 1 rfl (by decide +kernel) rfl rfl) (de_str (by decide))) (dss_one (ds_ret (de_tup (da_cons (de_fz (de_tup (da_cons (de_str (by decide)) (da_cons (de_fz (de_tup (da_cons (de_str (by decide)) (da_cons (de_fz (cV c 6 rfl (by decide +kernel) rfl rfl)) (da_cons (de_fz (cV c 7 rfl (by decide +kernel) rfl rfl)) da_nil))))) (da_cons (de_fz (cV c 8 rfl (by decide +kernel) rfl rfl)) da_nil))))) (da_cons (de_fz (de_tup (da_cons (de_str (by decide)) (da_cons (de_fz (de_tup (da_cons (de_str (by decide)) (da_cons (de_fz (cV c 6 rfl (by decide +kernel) rfl rfl)) (da_cons (de_fz (cV c 8 rfl (by decide +kernel) rfl rfl)) da_nil))))) (da_cons (de_fz (de_tup (da_cons (de_str (by decide)) (da_cons (de_fz (cV c 7 rfl (by decide +kernel) rfl rfl)) (da_cons (de_fz (cV c 8 rfl (by decide +kernel) rfl rfl)) da_nil))))) da_nil))))) da_nil))))) dss_nil)
  (dss_cons (cAsg c 5 rfl (by decide +kernel) rfl (de_slice (cV c 1 rfl (by decide +kernel) rfl rfl) (do_some de_int) do_none) rfl)
  (dss_one (ds_ret (de_tup (da_cons (de_fz (de_tup (da_cons (de_fz (cV c 5 rfl (by decide +kernel) rfl rfl)) (da_cons (de_fz (de_tup (da_cons (de_fz (cV c 5 rfl (by decide +kernel) rfl rfl)) (da_cons (de_fz (cV c 6 rfl (by decide +kernel) rfl rfl)) (da_cons (de_fz (cV c 7 rfl (by decide +kernel) rfl rfl)) da_nil))))) (da_cons (de_fz (cV c 8 rfl (by decide +kernel) rfl rfl)) da_nil))))) (da_cons (de_fz (de_tup (da_cons (de_fz (cV c 5 rfl (by decide +kernel) rfl rfl)) (da_cons (de_fz (cV c 6 rfl (by decide +kernel) rfl rfl)) (da_cons (de_fz (de_tup (da_cons (de_fz (cV c 5 rfl (by decide +kernel) rfl rfl)) (da_cons (de_fz (cV c 7 rfl (by decide +kernel) rfl rfl)) (da_cons (de_fz (cV c 8 rfl (by decide +kernel) rfl rfl)) da_nil))))) da_nil))))) da_nil)))))))))))))))
set_option maxHeartbeats 0 in
theorem d_law_done {K : PySem.W.Frag} {F : Fns} {k : Nat} {X : Cx} (c : Ctx K infos free F k n_law_done (defScope s_law_done) (fun _ => true) X) : PSs X (defBody s_law_done) (tDs X.K (m_law_done F)) :=
  (dss_cons (cAsg c 2 rfl (by decide +kernel) rfl (cIx c (cV c 0 rfl (by decide +kernel) rfl rfl) de_int (fun _ _ => rfl)) rfl)
  (dss_cons (ds_if (tEq c (cV c 2 rfl (by decide +kernel) rfl rfl) (de_str (by decide))) (dss_one (ds_ret (cIx c (cLc c [("x", 3)] (by decide +kernel) (di_of (cCall c 14 rfl (by decide +kernel) (da_cons (de_fz (cIx c (cCall c 16 rfl (by decide +kernel) (da_cons (de_fz (cIx c (cV c 0 rfl (by decide +kernel) rfl rfl) de_int (fun _ _ => rfl))) da_nil) (aCons_len aNil_len) rfl rfl rfl) de_int (fun _ _ => rfl))) da_nil) (aCons_len aNil_len) rfl rfl rfl)) (dg_name 3) (fun Y1 d1 hY1 => ⟨(cPgN d1 3 rfl (by decide +kernel) (by decide +kernel)), (pts_one (tEq d1 (cCall d1 17 rfl (by decide +kernel) (da_cons (de_fz (cIx d1 (cV d1 0 rfl (by decide +kernel) rfl rfl) de_int (fun _ _ => rfl))) (da_cons (de_fz (cV d1 3 rfl (by decide +kernel) rfl rfl)) da_nil)) (aCons_len (aCons_len aNil_len)) rfl rfl rfl) (cV d1 1 rfl (by decide +kernel) rfl rfl))), (cV d1 3 rfl (by decide +kernel) rfl rfl)⟩) (fun _ => rfl)) de_int (fun _ _ => rfl)))) dss_nil)
  (dss_cons (ds_if (tIn c (cV c 2 rfl (by decide +kernel) rfl rfl) (de_tup (da_cons (de_str (by decide)) (da_cons (de_str (by decide)) da_nil))) (by with_unfolding_all rfl)) (dss_one (ds_ret (de_if (tEq c (cV c 2 rfl (by decide +kernel) rfl rfl) (de_str (by decide))) (cV c 1 rfl (by decide +kernel) rfl rfl) (cIx c (cV c 1 rfl (by decide +kernel) rfl rfl) de_int (fun _ _ => rfl))))) dss_nil)
  (dss_cons (ds_if (tIn c (cV c 2 rfl (by decide +kernel) rfl rfl) (de_tup (da_cons (de_str (by decide)) (da_cons (de_str (by decide)) da_nil))) (by with_unfolding_all rfl)) (dss_one (ds_ret (de_if (tEq c (cV c 2 rfl (by decide +kernel) rfl rfl) (de_str (by decide))) (de_tup (da_cons (de_fz (cIx c (de_dictOb (pps_cons pe_str (de_fz (de_str (by decide))) (pps_cons pe_str (de_fz (de_str (by decide))) pps_nil)) rfl rfl (fun h => nomatch h) (by decide) rfl (by decide) (by decide +kernel)) (cIx c (cV c 1 rfl (by decide +kernel) rfl rfl) de_int (fun _ _ => rfl)) (fun _ _ => rfl))) (da_cons (de_fz (cIx c (cV c 1 rfl (by decide +kernel) rfl rfl) de_int (fun _ _ => rfl))) da_nil))) (de_tup (da_cons (de_fz (cIx c (cV c 1 rfl (by decide +kernel) rfl rfl) de_int (fun _ _ => rfl))) (da_cons (de_fz (cIx c (cV c 1 rfl (by decide +kernel) rfl rfl) de_int (fun _ _ => rfl))) da_nil)))))) dss_nil)
  (dss_cons (ds_if (tEq c (cV c 2 rfl (by decide +kernel) rfl rfl) (de_str (by decide))) (dss_one (ds_ret (cCall c 17 rfl (by decide +kernel) (da_cons (de_fz (cIx c (cV c 0 rfl (by decide +kernel) rfl rfl) de_int (fun _ _ => rfl))) (da_cons (de_fz (cCall c 17 rfl (by decide +kernel) (da_cons (de_fz (cIx c (cV c 0 rfl (by decide +kernel) rfl rfl) de_int (fun _ _ => rfl))) (da_cons (de_fz (cV c 1 rfl (by decide +kernel) rfl rfl)) da_nil)) (aCons_len (aCons_len aNil_len)) rfl rfl rfl)) da_nil)) (aCons_len (aCons_len aNil_len)) rfl rfl rfl))) dss_nil)
  (dss_cons (ds_if (tEq c (cV c 2 rfl (by decide +kernel) rfl rfl) (de_str (by decide))) (dss_one (ds_ret (de_tup (da_cons (de_fz (cIx c (cV c 1 rfl (by decide +kernel) rfl rfl) de_int (fun _ _ => rfl))) (da_cons (de_fz (cCall c 17 rfl (by decide +kernel) (da_cons (de_fz (de_if (tEq c (cIx c (cV c 1 rfl (by decide +kernel) rfl rfl) de_int (fun _ _ => rfl)) (de_str (by decide))) (cIx c (cV c 0 rfl (by decide +kernel) rfl rfl) de_int (fun _ _ => rfl)) (cIx c (cV c 0 rfl (by decide +kernel) rfl rfl) de_int (fun _ _ => rfl)))) (da_cons (de_fz (cIx c (cV c 1 rfl (by decide +kernel) rfl rfl) de_int (fun _ _ => rfl))) da_nil)) (aCons_len (aCons_len aNil_len)) rfl rfl rfl)) da_nil))))) dss_nil)
  (dss_cons (ds_if (tEq c (cV c 2 rfl (by decide +kernel) rfl rfl) (de_str (by decide))) (dss_one (ds_ret (de_tup (da_cons (de_fz (cCall c 17 rfl (by decide +kernel) (da_cons (de_fz (cIx c (cV c 0 rfl (by decide +kernel) rfl rfl) de_int (fun _ _ => rfl))) (da_cons (de_fz (cIx c (cV c 1 rfl (by decide +kernel) rfl rfl) de_int (fun _ _ => rfl))) da_nil)) (aCons_len (aCons_len aNil_len)) rfl rfl rfl)) (da_cons (de_fz (cCall c 17 rfl (by decide +kernel) (da_cons (de_fz (cIx c (cV c 0 rfl (by decide +kernel) rfl rfl) de_int (fun _ _ => rfl))) (da_cons (de_fz (cIx c (cV c 1 rfl (by decide +kernel) rfl rfl) de_int (fun _ _ => rfl))) da_nil)) (aCons_len (aCons_len aNil_len)) rfl rfl rfl)) da_nil))))) dss_nil)
  (dss_cons (ds_if (tEq c (cV c 2 rfl (by decide +kernel) rfl rfl) (de_str (by decide))) (dss_one (ds_ret (de_tup (da_cons (de_fz (cIx c (cIx c (cV c 1 rfl (by decide +kernel) rfl rfl) de_int (fun _ _ => rfl)) de_int (fun _ _ => rfl))) (da_cons (de_fz (de_tup (da_cons (de_fz (cIx c (cIx c (cV c 1 rfl (by decide +kernel) rfl rfl) de_int (fun _ _ => rfl)) de_int (fun _ _ => rfl))) (da_cons (de_fz (cIx c (cV c 1 rfl (by decide +kernel) rfl rfl) de_int (fun _ _ => rfl))) da_nil)))) da_nil))))) dss_nil)
  (dss_cons (ds_if (tEq c (cV c 2 rfl (by decide +kernel) rfl rfl) (de_str (by decide))) (dss_one (ds_ret (de_tup (da_cons (de_fz (cIx c (cIx c (cV c 1 rfl (by decide +kernel) rfl rfl) de_int (fun _ _ => rfl)) de_int (fun _ _ => rfl))) (da_cons (de_fz (de_tup (da_cons (de_fz (cIx c (cIx c (cV c 1 rfl (by decide +kernel) rfl rfl) de_int (fun _ _ => rfl)) de_int (fun _ _ => rfl))) (da_cons (de_fz (cIx c (cV c 1 rfl (by decide +kernel) rfl rfl) de_int (fun _ _ => rfl))) da_nil)))) da_nil))))) dss_nil)
  (dss_cons (ds_if (tEq c (cIx c (cV c 1 rfl (by decide +kernel) rfl rfl) de_int (fun _ _ => rfl)) (de_str (by decide))) (dss_one (ds_ret (de_if (tEq c (cIx c (cIx c (cV c 1 rfl (by decide +kernel) rfl rfl) de_int (fun _ _ => rfl)) de_int (fun _ _ => rfl)) (de_str (by decide))) (cIx c (cV c 1 rfl (by decide +kernel) rfl rfl) de_int (fun _ _ => rfl)) (de_tup (da_cons (de_str (by decide)) (da_cons (de_fz (de_tup (da_cons (de_str (by decide)) (da_cons (de_fz (cIx c (cIx c (cV c 1 rfl (by decide +kernel) rfl rfl) de_int (fun _ _ => rfl)) de_int (fun _ _ => rfl))) da_nil)))) da_nil)))))) dss_nil)
  (dss_one (ds_ret (de_tup (da_cons (de_str (by decide)) (da_cons (de_fz (de_tup (da_cons (de_str (by decide)) (da_cons (de_fz (cIx c (cV c 1 rfl (by decide +kernel) rfl rfl) de_int (fun _ _ => rfl))) da_nil)))) da_nil)))))))))))))))
set_option maxHeartbeats 0 in
theorem d_law_is_plain {K : PySem.W.Frag} {F : Fns} {k : Nat} {X : Cx} (c : Ctx K infos free F k n_law_is_plain (defScope s_law_is_plain) (fun _ => true) X) : PSs X (defBody s_law_is_plain) (tDs X.K (m_law_is_plain F)) :=
  (dss_cons (ds_if (tEq c (cIx c (cV c 0 rfl (by decide +kernel) rfl rfl) de_int (fun _ _ => rfl)) (de_str (by decide))) (dss_one (ds_ret (cIn c (cIx c (cIx c (cV c 0 rfl (by decide +kernel) rfl rfl) de_int (fun _ _ => rfl)) de_int (fun _ _ => rfl)) (de_tup (da_cons (de_str (by decide)) (da_cons (de_str (by decide)) (da_cons (de_str (by decide)) (da_cons (de_str (by decide)) da_nil))))) (by with_unfolding_all rfl)))) dss_nil)
  (dss_one (ds_ret (de_or (cNotIn c (cIx c (cV c 0 rfl (by decide +kernel) rfl rfl) de_int (fun _ _ => rfl)) (de_tup (da_cons (de_str (by decide)) (da_cons (de_str (by decide)) (da_cons (de_str (by decide)) da_nil)))) (by with_unfolding_all rfl)) (de_one (de_and (cCall c 18 rfl (by decide +kernel) (da_cons (de_fz (cIx c (cV c 0 rfl (by decide +kernel) rfl rfl) de_int (fun _ _ => rfl))) da_nil) (aCons_len aNil_len) rfl rfl rfl) (de_one (cCall c 18 rfl (by decide +kernel) (da_cons (de_fz (cIx c (cV c 0 rfl (by decide +kernel) rfl rfl) de_int (fun _ _ => rfl))) da_nil) (aCons_len aNil_len) rfl rfl rfl))))))))
set_option maxHeartbeats 0 in
theorem d_law_is_program {K : PySem.W.Frag} {F : Fns} {k : Nat} {X : Cx} (c : Ctx K infos free F k n_law_is_program (defScope s_law_is_program) (fun _ => true) X) : PSs X (defBody s_law_is_program) (tDs X.K (m_law_is_program F)) :=
  (dss_cons (ds_if (PW.pt (dw_or (dt_not (dt_tru (de_isi (cGl c (by decide +kernel)) (cFree c 4 rfl) (cGl c (by decide +kernel)) (cFree c 5 rfl) bt_tuple (cV c 0 rfl (by decide +kernel) rfl rfl)))) (dw_or (tEq c (cV c 0 rfl (by decide +kernel) rfl rfl) (de_tup da_nil)) (dw_or1 (dt_not (dt_tru (de_isi (cGl c (by decide +kernel)) (cFree c 4 rfl) (cGl c (by decide +kernel)) (cFree c 7 rfl) bt_str (cIx c (cV c 0 rfl (by decide +kernel) rfl rfl) de_int (fun _ _ => rfl))))))))) (dss_one (ds_ret de_bl)) dss_nil)
  (dss_cons (cAsg c 1 rfl (by decide +kernel) rfl (de_get2 (by have := (c).room.un; omega) (de_dictOb (pps_cons pe_str (de_fz de_int) (pps_cons pe_str (de_fz de_int) (pps_cons pe_str (de_fz de_int) (pps_cons pe_str (de_fz de_int) (pps_cons pe_str (de_fz de_int) (pps_cons pe_str (de_fz de_int) (pps_cons pe_str (de_fz de_int) (pps_cons pe_str (de_fz de_int) (pps_cons pe_str (de_fz de_int) (pps_cons pe_str (de_fz de_int) (pps_cons pe_str (de_fz de_int) pps_nil))))))))))) rfl rfl (fun h => nomatch h) (by decide) rfl (by decide) (by decide +kernel)) (cIx c (cV c 0 rfl (by decide +kernel) rfl rfl) de_int (fun _ _ => rfl)) de_int ⟨rfl, rfl, rfl, rfl⟩) rfl)
  (dss_cons (ds_if (tNe c (cB c 1 call_len callS_len rfl (by decide +kernel) bt_len (by decide) rfl (da_cons (cV c 0 rfl (by decide +kernel) rfl rfl) da_nil) rfl rfl) (cV c 1 rfl (by decide +kernel) rfl rfl)) (dss_one (ds_ret de_bl)) dss_nil)
  (dss_one (ds_ret (de_or (cNotIn c (cIx c (cV c 0 rfl (by decide +kernel) rfl rfl) de_int (fun _ _ => rfl)) (de_tup (da_cons (de_str (by decide)) (da_cons (de_str (by decide)) (da_cons (de_str (by decide)) (da_cons (de_str (by decide)) da_nil))))) (by with_unfolding_all rfl)) (de_one (cEq c (cLc c [("part", 2)] (by decide +kernel) (di_of (de_slice (cV c 0 rfl (by decide +kernel) rfl rfl) (do_some de_int) do_none)) (dg_name 2) (fun Y1 d1 hY1 => ⟨(cPgN d1 2 rfl (by decide +kernel) (by decide +kernel)), (pts_one (dt_not (dt_tru (cCall d1 19 rfl (by decide +kernel) (da_cons (de_fz (cV d1 2 rfl (by decide +kernel) rfl rfl)) da_nil) (aCons_len aNil_len) rfl rfl rfl)))), (cV d1 2 rfl (by decide +kernel) rfl rfl)⟩) (fun _ => rfl)) (de_lst da_nil)))))))))
set_option maxHeartbeats 0 in
theorem d_law {K : PySem.W.Frag} {F : Fns} {k : Nat} {X : Cx} (c : Ctx K infos free F k n_law (defScope s_law) (fun _ => true) X) : PSs X (defBody s_law) (tDs X.K (m_law F)) :=
  (dss_cons (cAsg c 1 rfl (by decide +kernel) rfl (de_dictOb (pps_cons pe_str (de_fz (cCall c 9 rfl (by decide +kernel) (da_cons (de_fz (cV c 0 rfl (by decide +kernel) rfl rfl)) (da_cons de_int da_nil)) (aCons_len (aCons_len aNil_len)) rfl rfl rfl)) (pps_cons pe_str (de_fz de_int) pps_nil)) rfl rfl (fun h => nomatch h) (by decide) rfl (by decide) (by decide +kernel)) rfl)
  (dss_cons (cFor c (di_range1 (cGl c (by decide +kernel)) (cFree c 0 rfl) (da_cons de_int da_nil)) (cPgN c 2 rfl (by decide +kernel) (by decide +kernel)) (dg_name 2) (dss_cons (cAsg c 3 rfl (by decide +kernel) rfl (cCall c 13 rfl (by decide +kernel) (da_cons (de_fz (cV c 1 rfl (by decide +kernel) rfl rfl)) (da_cons de_int da_nil)) (aCons_len (aCons_len aNil_len)) rfl rfl rfl) rfl)
  (dss_cons (cAsg c 4 rfl (by decide +kernel) rfl (cCall c 15 rfl (by decide +kernel) (da_cons (de_fz (cV c 1 rfl (by decide +kernel) rfl rfl)) (da_cons (de_fz (cV c 3 rfl (by decide +kernel) rfl rfl)) (da_cons de_int da_nil))) (aCons_len (aCons_len (aCons_len aNil_len))) rfl rfl rfl) rfl)
  (dss_cons (ds_if (tEq c (cCall c 10 rfl (by decide +kernel) (da_cons (de_fz (cV c 1 rfl (by decide +kernel) rfl rfl)) (da_cons de_int da_nil)) (aCons_len (aCons_len aNil_len)) rfl rfl rfl) de_int) (dss_one (cAsg c 4 rfl (by decide +kernel) rfl (de_tup (da_cons (de_str (by decide)) (da_cons (de_fz (cV c 4 rfl (by decide +kernel) rfl rfl)) da_nil))) rfl)) dss_nil)
  (dss_cons (cAsg c 5 rfl (by decide +kernel) rfl (cCall c 16 rfl (by decide +kernel) (da_cons (de_fz (cV c 4 rfl (by decide +kernel) rfl rfl)) da_nil) (aCons_len aNil_len) rfl rfl rfl) rfl)
  (dss_cons (ds_if (dt_not (dt_tru (cCall c 12 rfl (by decide +kernel) (da_cons (de_fz (cCall c 3 rfl (by decide +kernel) (da_cons (de_fz (cV c 4 rfl (by decide +kernel) rfl rfl)) da_nil) (aCons_len aNil_len) rfl rfl rfl)) (da_cons (de_fz (cV c 5 rfl (by decide +kernel) rfl rfl)) da_nil)) (aCons_len (aCons_len aNil_len)) rfl rfl rfl))) (dss_one (ds_ret de_bl)) dss_nil)
  (dss_cons (cAsg c 6 rfl (by decide +kernel) rfl (cCall c 7 rfl (by decide +kernel) (da_cons (de_fz (cV c 4 rfl (by decide +kernel) rfl rfl)) da_nil) (aCons_len aNil_len) rfl rfl rfl) rfl)
  (dss_cons (ds_if (PW.pt (dw_or (dt_not (dt_tru (cCall c 19 rfl (by decide +kernel) (da_cons (de_fz (cV c 6 rfl (by decide +kernel) rfl rfl)) da_nil) (aCons_len aNil_len) rfl rfl rfl))) (dw_or (dt_not (dt_tru (cCall c 18 rfl (by decide +kernel) (da_cons (de_fz (cV c 6 rfl (by decide +kernel) rfl rfl)) da_nil) (aCons_len aNil_len) rfl rfl rfl))) (dw_or (dt_not (dt_tru (cCall c 12 rfl (by decide +kernel) (da_cons (de_fz (cCall c 3 rfl (by decide +kernel) (da_cons (de_fz (cV c 6 rfl (by decide +kernel) rfl rfl)) da_nil) (aCons_len aNil_len) rfl rfl rfl)) (da_cons (de_fz (de_rev (cV c 5 rfl (by decide +kernel) rfl rfl))) da_nil)) (aCons_len (aCons_len aNil_len)) rfl rfl rfl))) (dw_or1 (tNe c (cCall c 16 rfl (by decide +kernel) (da_cons (de_fz (cV c 6 rfl (by decide +kernel) rfl rfl)) da_nil) (aCons_len aNil_len) rfl rfl rfl) (de_rev (cV c 5 rfl (by decide +kernel) rfl rfl)))))))) (dss_one (ds_ret de_bl)) dss_nil)
  (dss_cons (cFor c (di_of (de_slice (cCall c 14 rfl (by decide +kernel) (da_cons (de_fz (cIx c (cV c 5 rfl (by decide +kernel) rfl rfl) de_int (fun _ _ => rfl))) da_nil) (aCons_len aNil_len) rfl rfl rfl) do_none (do_some de_int))) (cPgN c 7 rfl (by decide +kernel) (by decide +kernel)) (dg_name 7) (dss_cons (cAsg c 9 rfl (by decide +kernel) rfl (cCall c 17 rfl (by decide +kernel) (da_cons (de_fz (cV c 4 rfl (by decide +kernel) rfl rfl)) (da_cons (de_fz (cV c 7 rfl (by decide +kernel) rfl rfl)) da_nil)) (aCons_len (aCons_len aNil_len)) rfl rfl rfl) rfl)
  (dss_cons (ds_if (PW.pt (dw_or (dt_not (dt_tru (cCall c 12 rfl (by decide +kernel) (da_cons (de_fz (cCall c 5 rfl (by decide +kernel) (da_cons (de_fz (cV c 4 rfl (by decide +kernel) rfl rfl)) (da_cons (de_fz (cV c 7 rfl (by decide +kernel) rfl rfl)) da_nil)) (aCons_len (aCons_len aNil_len)) rfl rfl rfl)) (da_cons (de_fz (cV c 9 rfl (by decide +kernel) rfl rfl)) da_nil)) (aCons_len (aCons_len aNil_len)) rfl rfl rfl))) (dw_or (dt_not (dt_tru (cCall c 12 rfl (by decide +kernel) (da_cons (de_fz (cCall c 5 rfl (by decide +kernel) (da_cons (de_fz (cV c 6 rfl (by decide +kernel) rfl rfl)) (da_cons (de_fz (cV c 9 rfl (by decide +kernel) rfl rfl)) da_nil)) (aCons_len (aCons_len aNil_len)) rfl rfl rfl)) (da_cons (de_fz (cV c 7 rfl (by decide +kernel) rfl rfl)) da_nil)) (aCons_len (aCons_len aNil_len)) rfl rfl rfl))) (dw_or1 (tNe c (cCall c 17 rfl (by decide +kernel) (da_cons (de_fz (cV c 6 rfl (by decide +kernel) rfl rfl)) (da_cons (de_fz (cV c 9 rfl (by decide +kernel) rfl rfl)) da_nil)) (aCons_len (aCons_len aNil_len)) rfl rfl rfl) (cV c 7 rfl (by decide +kernel) rfl rfl)))))) (dss_one (ds_ret de_bl)) dss_nil)
  (dss_forget [7, 9] dss_nil))) (fun _ => rfl))
  (dss_cons (cAsg c 8 rfl (by decide +kernel) rfl (de_tup (da_cons (de_str (by decide)) (da_cons (de_fz (cV c 4 rfl (by decide +kernel) rfl rfl)) (da_cons (de_fz (cCall c 15 rfl (by decide +kernel) (da_cons (de_fz (cV c 1 rfl (by decide +kernel) rfl rfl)) (da_cons (de_fz (cCall c 13 rfl (by decide +kernel) (da_cons (de_fz (cV c 1 rfl (by decide +kernel) rfl rfl)) (da_cons de_int da_nil)) (aCons_len (aCons_len aNil_len)) rfl rfl rfl)) (da_cons de_int da_nil))) (aCons_len (aCons_len (aCons_len aNil_len))) rfl rfl rfl)) da_nil)))) rfl)
  (dss_cons (ds_if (PW.pt (dw_or (dt_not (dt_tru (cCall c 12 rfl (by decide +kernel) (da_cons (de_fz (cCall c 3 rfl (by decide +kernel) (da_cons (de_fz (cV c 8 rfl (by decide +kernel) rfl rfl)) da_nil) (aCons_len aNil_len) rfl rfl rfl)) (da_cons (de_fz (cCall c 16 rfl (by decide +kernel) (da_cons (de_fz (cV c 8 rfl (by decide +kernel) rfl rfl)) da_nil) (aCons_len aNil_len) rfl rfl rfl)) da_nil)) (aCons_len (aCons_len aNil_len)) rfl rfl rfl))) (dw_or1 (dt_not (dt_tru (cCall c 12 rfl (by decide +kernel) (da_cons (de_fz (de_cmp op_isN opS_isN (cCall c 3 rfl (by decide +kernel) (da_cons (de_fz (de_tup (da_cons (de_str (by decide)) (da_cons (de_fz (de_tup (da_cons (de_str (by decide)) (da_cons (de_fz (cV c 3 rfl (by decide +kernel) rfl rfl)) da_nil)))) (da_cons (de_fz (cV c 8 rfl (by decide +kernel) rfl rfl)) da_nil))))) da_nil) (aCons_len aNil_len) rfl rfl rfl) de_non (nomark _))) (da_cons (de_fz (de_cmp op_isN opS_isN (cCall c 16 rfl (by decide +kernel) (da_cons (de_fz (cV c 8 rfl (by decide +kernel) rfl rfl)) da_nil) (aCons_len aNil_len) rfl rfl rfl) de_non (nomark _))) da_nil)) (aCons_len (aCons_len aNil_len)) rfl rfl rfl)))))) (dss_one (ds_ret de_bl)) dss_nil)
  (dss_forget [2, 3, 4, 5, 6, 7, 8, 9] dss_nil))))))))))) (fun _ => rfl))
  (dss_one (ds_ret de_bl))))
def DS : List FD := [⟨"sum_of", p_sum_of, n_sum_of, s_sum_of, 0⟩, ⟨"pair_of", p_pair_of, n_pair_of, s_pair_of, 0⟩, ⟨"plain_type", p_plain_type, n_plain_type, s_plain_type, 6⟩, ⟨"type_of", p_type_of, n_type_of, s_type_of, 5⟩, ⟨"turned_sum", p_turned_sum, n_turned_sum, s_turned_sum, 0⟩, ⟨"done", p_done, n_done, s_done, 1⟩, ⟨"back", p_back, n_back, s_back, 1⟩, ⟨"undone", p_undone, n_undone, s_undone, 1⟩, ⟨"without_undo", p_without_undo, n_without_undo, s_without_undo, 1⟩, ⟨"_law_draws", p_law_draws, n_law_draws, s_law_draws, 6⟩, ⟨"_law_next", p_law_next, n_law_next, s_law_next, 0⟩, ⟨"_law_pick", p_law_pick, n_law_pick, s_law_pick, 0⟩, ⟨"_law_alike", p_law_alike, n_law_alike, s_law_alike, 1⟩, ⟨"_law_type", p_law_type, n_law_type, s_law_type, 1⟩, ⟨"_law_values", p_law_values, n_law_values, s_law_values, 3⟩, ⟨"_law_program", p_law_program, n_law_program, s_law_program, 3⟩, ⟨"_law_types", p_law_types, n_law_types, s_law_types, 8⟩, ⟨"_law_done", p_law_done, n_law_done, s_law_done, 2⟩, ⟨"_law_is_plain", p_law_is_plain, n_law_is_plain, s_law_is_plain, 0⟩, ⟨"_law_is_program", p_law_is_program, n_law_is_program, s_law_is_program, 2⟩, ⟨"law", p_law, n_law, s_law, 9⟩]
def nsn (i : Nat) : Nat := [0, 0, 6, 5, 0, 1, 1, 1, 1, 6, 0, 0, 1, 1, 3, 3, 8, 2, 0, 2, 9].getD i 0
def gs (F : Fns) : Nat → GS
  | 0 => m_sum_of F
  | 1 => m_pair_of F
  | 2 => m_plain_type F
  | 3 => m_type_of F
  | 4 => m_turned_sum F
  | 5 => m_done F
  | 6 => m_back F
  | 7 => m_undone F
  | 8 => m_without_undo F
  | 9 => m_law_draws F
  | 10 => m_law_next F
  | 11 => m_law_pick F
  | 12 => m_law_alike F
  | 13 => m_law_type F
  | 14 => m_law_values F
  | 15 => m_law_program F
  | 16 => m_law_types F
  | 17 => m_law_done F
  | 18 => m_law_is_plain F
  | 19 => m_law_is_program F
  | 20 => m_law F
  | _ => fun _ => .stuck
theorem txt_sc (i : Nat) (d : FD) (h : DS[i]? = some d) : FnScope d.N d.ps (defScope d.st) ∧ d.N.length = d.ps.length + nsn i := match i, h with
  | 0, h => by cases h; exact ⟨sc_sum_of, rfl⟩
  | 1, h => by cases h; exact ⟨sc_pair_of, rfl⟩
  | 2, h => by cases h; exact ⟨sc_plain_type, rfl⟩
  | 3, h => by cases h; exact ⟨sc_type_of, rfl⟩
  | 4, h => by cases h; exact ⟨sc_turned_sum, rfl⟩
  | 5, h => by cases h; exact ⟨sc_done, rfl⟩
  | 6, h => by cases h; exact ⟨sc_back, rfl⟩
  | 7, h => by cases h; exact ⟨sc_undone, rfl⟩
  | 8, h => by cases h; exact ⟨sc_without_undo, rfl⟩
  | 9, h => by cases h; exact ⟨sc_law_draws, rfl⟩
  | 10, h => by cases h; exact ⟨sc_law_next, rfl⟩
  | 11, h => by cases h; exact ⟨sc_law_pick, rfl⟩
  | 12, h => by cases h; exact ⟨sc_law_alike, rfl⟩
  | 13, h => by cases h; exact ⟨sc_law_type, rfl⟩
  | 14, h => by cases h; exact ⟨sc_law_values, rfl⟩
  | 15, h => by cases h; exact ⟨sc_law_program, rfl⟩
  | 16, h => by cases h; exact ⟨sc_law_types, rfl⟩
  | 17, h => by cases h; exact ⟨sc_law_done, rfl⟩
  | 18, h => by cases h; exact ⟨sc_law_is_plain, rfl⟩
  | 19, h => by cases h; exact ⟨sc_law_is_program, rfl⟩
  | 20, h => by cases h; exact ⟨sc_law, rfl⟩
  | n + 21, h => by have e : DS[n + 21]? = none := rfl; rw [e] at h; cases h
theorem txt_bd (i : Nat) (d : FD) (h : DS[i]? = some d) : BindF d := match i, h with
  | 0, h => by cases h; exact fun _ _ _ _ _ _ us hl => match us, hl with | [_, _], _ => rfl
  | 1, h => by cases h; exact fun _ _ _ _ _ _ us hl => match us, hl with | [_, _], _ => rfl
  | 2, h => by cases h; exact fun _ _ _ _ _ _ us hl => match us, hl with | [_], _ => rfl
  | 3, h => by cases h; exact fun _ _ _ _ _ _ us hl => match us, hl with | [_], _ => rfl
  | 4, h => by cases h; exact fun _ _ _ _ _ _ us hl => match us, hl with | [_], _ => rfl
  | 5, h => by cases h; exact fun _ _ _ _ _ _ us hl => match us, hl with | [_, _], _ => rfl
  | 6, h => by cases h; exact fun _ _ _ _ _ _ us hl => match us, hl with | [_, _], _ => rfl
  | 7, h => by cases h; exact fun _ _ _ _ _ _ us hl => match us, hl with | [_], _ => rfl
  | 8, h => by cases h; exact fun _ _ _ _ _ _ us hl => match us, hl with | [_], _ => rfl
  | 9, h => by cases h; exact fun _ _ _ _ _ _ us hl => match us, hl with | [_, _], _ => rfl
  | 10, h => by cases h; exact fun _ _ _ _ _ _ us hl => match us, hl with | [_, _], _ => rfl
  | 11, h => by cases h; exact fun _ _ _ _ _ _ us hl => match us, hl with | [_, _], _ => rfl
  | 12, h => by cases h; exact fun _ _ _ _ _ _ us hl => match us, hl with | [_, _], _ => rfl
  | 13, h => by cases h; exact fun _ _ _ _ _ _ us hl => match us, hl with | [_, _], _ => rfl
  | 14, h => by cases h; exact fun _ _ _ _ _ _ us hl => match us, hl with | [_], _ => rfl
  | 15, h => by cases h; exact fun _ _ _ _ _ _ us hl => match us, hl with | [_, _, _], _ => rfl
  | 16, h => by cases h; exact fun _ _ _ _ _ _ us hl => match us, hl with | [_], _ => rfl
  | 17, h => by cases h; exact fun _ _ _ _ _ _ us hl => match us, hl with | [_, _], _ => rfl
  | 18, h => by cases h; exact fun _ _ _ _ _ _ us hl => match us, hl with | [_], _ => rfl
  | 19, h => by cases h; exact fun _ _ _ _ _ _ us hl => match us, hl with | [_], _ => rfl
  | 20, h => by cases h; exact fun _ _ _ _ _ _ us hl => match us, hl with | [_], _ => rfl
  | n + 21, h => by have e : DS[n + 21]? = none := rfl; rw [e] at h; cases h
theorem txt_der (i : Nat) (d : FD) (h : DS[i]? = some d) (K : PySem.W.Frag) (F : Fns) (k : Nat) (X : Cx) (c : Ctx K (DS.map FD.fi) free F k d.N (defScope d.st) (fun _ => true) X) : PSs X (defBody d.st) (tDs X.K (gs F i)) := match i, h, c with
  | 0, h, c => by cases h; exact d_sum_of c
  | 1, h, c => by cases h; exact d_pair_of c
  | 2, h, c => by cases h; exact d_plain_type c
  | 3, h, c => by cases h; exact d_type_of c
  | 4, h, c => by cases h; exact d_turned_sum c
  | 5, h, c => by cases h; exact d_done c
  | 6, h, c => by cases h; exact d_back c
  | 7, h, c => by cases h; exact d_undone c
  | 8, h, c => by cases h; exact d_without_undo c
  | 9, h, c => by cases h; exact d_law_draws c
  | 10, h, c => by cases h; exact d_law_next c
  | 11, h, c => by cases h; exact d_law_pick c
  | 12, h, c => by cases h; exact d_law_alike c
  | 13, h, c => by cases h; exact d_law_type c
  | 14, h, c => by cases h; exact d_law_values c
  | 15, h, c => by cases h; exact d_law_program c
  | 16, h, c => by cases h; exact d_law_types c
  | 17, h, c => by cases h; exact d_law_done c
  | 18, h, c => by cases h; exact d_law_is_plain c
  | 19, h, c => by cases h; exact d_law_is_program c
  | 20, h, c => by cases h; exact d_law c
  | n + 21, h, _ => by have e : DS[n + 21]? = none := rfl; rw [e] at h; cases h
theorem txt : Txt DS free nsn gs := ⟨txt_sc, txt_bd, txt_der⟩
abbrev Fk : Nat → Fns := FkOf nsn gs
theorem Fk_sum_of (k : Nat) : Fk (k + 1) 0 = fnD 0 (m_sum_of (Fk k)) := rfl
theorem Fk_pair_of (k : Nat) : Fk (k + 1) 1 = fnD 0 (m_pair_of (Fk k)) := rfl
theorem Fk_plain_type (k : Nat) : Fk (k + 1) 2 = fnD 6 (m_plain_type (Fk k)) := rfl
theorem Fk_type_of (k : Nat) : Fk (k + 1) 3 = fnD 5 (m_type_of (Fk k)) := rfl
theorem Fk_turned_sum (k : Nat) : Fk (k + 1) 4 = fnD 0 (m_turned_sum (Fk k)) := rfl
theorem Fk_done (k : Nat) : Fk (k + 1) 5 = fnD 1 (m_done (Fk k)) := rfl
theorem Fk_back (k : Nat) : Fk (k + 1) 6 = fnD 1 (m_back (Fk k)) := rfl
theorem Fk_undone (k : Nat) : Fk (k + 1) 7 = fnD 1 (m_undone (Fk k)) := rfl
theorem Fk_without_undo (k : Nat) : Fk (k + 1) 8 = fnD 1 (m_without_undo (Fk k)) := rfl
theorem Fk_law_draws (k : Nat) : Fk (k + 1) 9 = fnD 6 (m_law_draws (Fk k)) := rfl
theorem Fk_law_next (k : Nat) : Fk (k + 1) 10 = fnD 0 (m_law_next (Fk k)) := rfl
theorem Fk_law_pick (k : Nat) : Fk (k + 1) 11 = fnD 0 (m_law_pick (Fk k)) := rfl
theorem Fk_law_alike (k : Nat) : Fk (k + 1) 12 = fnD 1 (m_law_alike (Fk k)) := rfl
theorem Fk_law_type (k : Nat) : Fk (k + 1) 13 = fnD 1 (m_law_type (Fk k)) := rfl
theorem Fk_law_values (k : Nat) : Fk (k + 1) 14 = fnD 3 (m_law_values (Fk k)) := rfl
theorem Fk_law_program (k : Nat) : Fk (k + 1) 15 = fnD 3 (m_law_program (Fk k)) := rfl
theorem Fk_law_types (k : Nat) : Fk (k + 1) 16 = fnD 8 (m_law_types (Fk k)) := rfl
theorem Fk_law_done (k : Nat) : Fk (k + 1) 17 = fnD 2 (m_law_done (Fk k)) := rfl
theorem Fk_law_is_plain (k : Nat) : Fk (k + 1) 18 = fnD 0 (m_law_is_plain (Fk k)) := rfl
theorem Fk_law_is_program (k : Nat) : Fk (k + 1) 19 = fnD 2 (m_law_is_program (Fk k)) := rfl
theorem Fk_law (k : Nat) : Fk (k + 1) 20 = fnD 9 (m_law (Fk k)) := rfl
end L_k62
set_option Elab.async false
set_option linter.all false
set_option maxRecDepth 100000
set_option autoImplicit false
set_option maxHeartbeats 0
namespace L_k62
open PySem PySem.Spec PyProof.Rows L2 PL
inductive Ty where
  | one | sum (a b : Ty) | pair (a b : Ty)
  deriving DecidableEq
def Ty.d : Ty → D
  | .one => .tup [.str "one"]
  | .sum a b => .tup [.str "sum", a.d, b.d]
  | .pair a b => .tup [.str "pair", a.d, b.d]
def Ty.dep : Ty → Nat
  | .one => 0
  | .sum a b => max a.dep b.dep + 1
  | .pair a b => max a.dep b.dep + 1
def Ty.n : Ty → Nat
  | .one => 1
  | .sum a b => a.n + b.n
  | .pair a b => a.n * b.n
def lf (x : D) : D := .tup [.str "left", x]
def rt (x : D) : D := .tup [.str "right", x]
def pr (x y : D) : D := .tup [x, y]
def Ty.vals : Ty → List D
  | .one => [.tup []]
  | .sum a b => a.vals.map lf ++ b.vals.map rt
  | .pair a b => a.vals.flatMap fun x => b.vals.map (pr x)
theorem n_pos : ∀ t : Ty, 0 < t.n
  | .one => by decide
  | .sum a b => by have := n_pos a; simp only [Ty.n]; omega
  | .pair a b => Nat.mul_pos (n_pos a) (n_pos b)
theorem m_sum {a b : Ty} {v : D} : v ∈ (Ty.sum a b).vals ↔ (∃ x ∈ a.vals, v = lf x) ∨ ∃ y ∈ b.vals, v = rt y := by
  simp only [Ty.vals, List.mem_append, List.mem_map]
  constructor
  · rintro (⟨x, h, rfl⟩ | ⟨x, h, rfl⟩)
    · exact .inl ⟨x, h, rfl⟩
    · exact .inr ⟨x, h, rfl⟩
  · rintro (⟨x, h, rfl⟩ | ⟨x, h, rfl⟩)
    · exact .inl ⟨x, h, rfl⟩
    · exact .inr ⟨x, h, rfl⟩
theorem m_pair {a b : Ty} {v : D} : v ∈ (Ty.pair a b).vals ↔ ∃ x ∈ a.vals, ∃ y ∈ b.vals, v = pr x y := by
  simp only [Ty.vals, List.mem_flatMap, List.mem_map]
  constructor
  · rintro ⟨x, h, y, h2, rfl⟩; exact ⟨x, h, y, h2, rfl⟩
  · rintro ⟨x, h, y, h2, rfl⟩; exact ⟨x, h, y, h2, rfl⟩
theorem m_one {v : D} : v ∈ Ty.one.vals ↔ v = .tup [] := by simp [Ty.vals]
/-! ### programs -/
inductive P where
  | same (a : Ty) | drop (a : Ty) | turnS (a b : Ty) | turnP (a b : Ty) | spread (a b c : Ty) | shiftS (a b c : Ty) | shiftP (a b c : Ty)
  | thn (p q : P) | eth (p q : P) | bth (p q : P) | und (p : P)
def P.d : P → D
  | .same a => .tup [.str "same", a.d]
  | .drop a => .tup [.str "drop", a.d]
  | .turnS a b => .tup [.str "turn sum", a.d, b.d]
  | .turnP a b => .tup [.str "turn pair", a.d, b.d]
  | .spread a b c => .tup [.str "spread", a.d, b.d, c.d]
  | .shiftS a b c => .tup [.str "shift sum", a.d, b.d, c.d]
  | .shiftP a b c => .tup [.str "shift pair", a.d, b.d, c.d]
  | .thn p q => .tup [.str "then", p.d, q.d]
  | .eth p q => .tup [.str "either", p.d, q.d]
  | .bth p q => .tup [.str "both", p.d, q.d]
  | .und p => .tup [.str "undo", p.d]
def typ : P → Option (Ty × Ty)
  | .same a => some (a, a)
  | .drop a => some (.pair .one a, a)
  | .turnS a b => some (.sum a b, .sum b a)
  | .turnP a b => some (.pair a b, .pair b a)
  | .spread a b c => some (.pair (.sum a b) c, .sum (.pair a c) (.pair b c))
  | .shiftS a b c => some (.sum (.sum a b) c, .sum a (.sum b c))
  | .shiftP a b c => some (.pair (.pair a b) c, .pair a (.pair b c))
  | .thn p q => match typ p, typ q with
    | some (a, b), some (c, e) => if b = c then some (a, e) else none
    | _, _ => none
  | .eth p q => match typ p, typ q with
    | some (a, b), some (c, e) => some (.sum a c, .sum b e)
    | _, _ => none
  | .bth p q => match typ p, typ q with
    | some (a, b), some (c, e) => some (.pair a c, .pair b e)
    | _, _ => none
  | .und p => (typ p).map fun q => (q.2, q.1)
/-- places of a value -/
def at0 : D → D
  | .tup (x :: _) => x
  | _ => .non
def at1 : D → D
  | .tup (_ :: y :: _) => y
  | _ => .non
def isL (v : D) : Bool := eqD (at0 v) (.str "left")
mutual
def run : P → D → D
  | .same _, v => v
  | .drop _, v => at1 v
  | .turnS _ _, v => if isL v then rt (at1 v) else lf (at1 v)
  | .turnP _ _, v => pr (at1 v) (at0 v)
  | .spread _ _ _, v => .tup [at0 (at0 v), .tup [at1 (at0 v), at1 v]]
  | .shiftS _ _ _, v => if isL v then (if isL (at1 v) then at1 v else rt (lf (at1 (at1 v)))) else rt v
  | .shiftP _ _ _, v => pr (at0 (at0 v)) (pr (at1 (at0 v)) (at1 v))
  | .thn p q, v => run q (run p v)
  | .eth p q, v => if isL v then lf (run p (at1 v)) else rt (run q (at1 v))
  | .bth p q, v => pr (run p (at0 v)) (run q (at1 v))
  | .und p, v => bk p v
def bk : P → D → D
  | .same _, v => v
  | .drop _, v => pr (.tup []) v
  | .turnS _ _, v => if isL v then rt (at1 v) else lf (at1 v)
  | .turnP _ _, v => pr (at1 v) (at0 v)
  | .spread _ _ _, v => .tup [.tup [at0 v, at0 (at1 v)], at1 (at1 v)]
  | .shiftS _ _ _, v => if isL v then lf v else (if isL (at1 v) then lf (rt (at1 (at1 v))) else at1 v)
  | .shiftP _ _ _, v => pr (pr (at0 v) (at0 (at1 v))) (at1 (at1 v))
  | .thn p q, v => bk p (bk q v)
  | .eth p q, v => if isL v then lf (bk p (at1 v)) else rt (bk q (at1 v))
  | .bth p q, v => pr (bk p (at0 v)) (bk q (at1 v))
  | .und p, v => run p v
end
theorem isL_lf (x : D) : isL (lf x) = true := by simp [isL, lf, at0, eqD_lit]
theorem isL_rt (x : D) : isL (rt x) = false := by simp [isL, rt, at0, eqD_lit]
theorem at1_lf (x : D) : at1 (lf x) = x := rfl
theorem at1_rt (x : D) : at1 (rt x) = x := rfl
theorem at0_pr (x y : D) : at0 (pr x y) = x := rfl
theorem at1_pr (x y : D) : at1 (pr x y) = y := rfl
theorem sp_lf (x y : D) : run (.spread .one .one .one) (pr (lf x) y) = lf (pr x y) := rfl
/-- each program leads its values one to one -/
theorem iso : ∀ (p : P) (s t : Ty), typ p = some (s, t) → (∀ v ∈ s.vals, run p v ∈ t.vals ∧ bk p (run p v) = v) ∧ (∀ u ∈ t.vals, bk p u ∈ s.vals ∧ run p (bk p u) = u)
  | .same a, s, t, h => by
    cases h
    exact ⟨fun v hv => ⟨hv, rfl⟩, fun v hv => ⟨hv, rfl⟩⟩
  | .drop a, s, t, h => by
    cases h
    refine ⟨fun v hv => ?_, fun u hu => ?_⟩
    · obtain ⟨x, hx, y, hy, rfl⟩ := m_pair.mp hv
      rw [m_one] at hx
      subst hx
      exact ⟨hy, rfl⟩
    · exact ⟨m_pair.mpr ⟨_, m_one.mpr rfl, u, hu, rfl⟩, rfl⟩
  | .turnS a b, s, t, h => by
    cases h
    refine ⟨fun v hv => ?_, fun v hv => ?_⟩ <;> rcases m_sum.mp hv with ⟨x, hx, rfl⟩ | ⟨x, hx, rfl⟩
    · exact ⟨by simp only [run, isL_lf, if_true, at1_lf]; exact m_sum.mpr (.inr ⟨x, hx, rfl⟩), by simp [run, bk, isL_lf, isL_rt, at1_lf, at1_rt]⟩
    · exact ⟨by simp only [run, isL_rt, Bool.false_eq_true, if_false, at1_rt]; exact m_sum.mpr (.inl ⟨x, hx, rfl⟩), by simp [run, bk, isL_lf, isL_rt, at1_lf, at1_rt]⟩
    · exact ⟨by simp only [bk, isL_lf, if_true, at1_lf]; exact m_sum.mpr (.inr ⟨x, hx, rfl⟩), by simp [run, bk, isL_lf, isL_rt, at1_lf, at1_rt]⟩
    · exact ⟨by simp only [bk, isL_rt, Bool.false_eq_true, if_false, at1_rt]; exact m_sum.mpr (.inl ⟨x, hx, rfl⟩), by simp [run, bk, isL_lf, isL_rt, at1_lf, at1_rt]⟩
  | .turnP a b, s, t, h => by
    cases h
    refine ⟨fun v hv => ?_, fun v hv => ?_⟩ <;> obtain ⟨x, hx, y, hy, rfl⟩ := m_pair.mp hv
    · exact ⟨m_pair.mpr ⟨y, hy, x, hx, rfl⟩, rfl⟩
    · exact ⟨m_pair.mpr ⟨y, hy, x, hx, rfl⟩, rfl⟩
  | .spread a b c, s, t, h => by
    cases h
    refine ⟨fun v hv => ?_, fun v hv => ?_⟩
    · obtain ⟨x, hx, y, hy, rfl⟩ := m_pair.mp hv
      rcases m_sum.mp hx with ⟨z, hz, rfl⟩ | ⟨z, hz, rfl⟩
      · exact ⟨m_sum.mpr (.inl ⟨pr z y, m_pair.mpr ⟨z, hz, y, hy, rfl⟩, rfl⟩), rfl⟩
      · exact ⟨m_sum.mpr (.inr ⟨pr z y, m_pair.mpr ⟨z, hz, y, hy, rfl⟩, rfl⟩), rfl⟩
    · rcases m_sum.mp hv with ⟨x, hx, rfl⟩ | ⟨x, hx, rfl⟩ <;> obtain ⟨z, hz, y, hy, rfl⟩ := m_pair.mp hx
      · exact ⟨m_pair.mpr ⟨lf z, m_sum.mpr (.inl ⟨z, hz, rfl⟩), y, hy, rfl⟩, rfl⟩
      · exact ⟨m_pair.mpr ⟨rt z, m_sum.mpr (.inr ⟨z, hz, rfl⟩), y, hy, rfl⟩, rfl⟩
  | .shiftS a b c, s, t, h => by
    cases h
    refine ⟨fun v hv => ?_, fun v hv => ?_⟩ <;> rcases m_sum.mp hv with ⟨x, hx, rfl⟩ | ⟨x, hx, rfl⟩
    · rcases m_sum.mp hx with ⟨z, hz, rfl⟩ | ⟨z, hz, rfl⟩
      · exact ⟨by simp only [run, isL_lf, if_true, at1_lf]; exact m_sum.mpr (.inl ⟨z, hz, rfl⟩), by simp [run, bk, isL_lf, at1_lf]⟩
      · exact ⟨by simp only [run, isL_lf, isL_rt, if_true, at1_lf, at1_rt, Bool.false_eq_true, if_false]; exact m_sum.mpr (.inr ⟨lf z, m_sum.mpr (.inl ⟨z, hz, rfl⟩), rfl⟩), by simp [run, bk, isL_lf, isL_rt, at1_lf, at1_rt]⟩
    · exact ⟨by simp only [run, isL_rt, Bool.false_eq_true, if_false]; exact m_sum.mpr (.inr ⟨rt x, m_sum.mpr (.inr ⟨x, hx, rfl⟩), rfl⟩), by simp [run, bk, isL_rt, at1_rt]⟩
    · exact ⟨by simp only [bk, isL_lf, if_true]; exact m_sum.mpr (.inl ⟨lf x, m_sum.mpr (.inl ⟨x, hx, rfl⟩), rfl⟩), by simp [run, bk, isL_lf, at1_lf]⟩
    · rcases m_sum.mp hx with ⟨z, hz, rfl⟩ | ⟨z, hz, rfl⟩
      · exact ⟨by simp only [bk, isL_rt, isL_lf, if_true, at1_lf, at1_rt, Bool.false_eq_true, if_false]; exact m_sum.mpr (.inl ⟨rt z, m_sum.mpr (.inr ⟨z, hz, rfl⟩), rfl⟩), by simp [run, bk, isL_lf, isL_rt, at1_lf, at1_rt]⟩
      · exact ⟨by simp only [bk, isL_rt, at1_rt, Bool.false_eq_true, if_false]; exact m_sum.mpr (.inr ⟨z, hz, rfl⟩), by simp [run, bk, isL_rt, at1_rt]⟩
  | .shiftP a b c, s, t, h => by
    cases h
    refine ⟨fun v hv => ?_, fun v hv => ?_⟩
    · obtain ⟨x, hx, y, hy, rfl⟩ := m_pair.mp hv
      obtain ⟨z, hz, u, hu, rfl⟩ := m_pair.mp hx
      exact ⟨m_pair.mpr ⟨z, hz, pr u y, m_pair.mpr ⟨u, hu, y, hy, rfl⟩, rfl⟩, rfl⟩
    · obtain ⟨x, hx, y, hy, rfl⟩ := m_pair.mp hv
      obtain ⟨z, hz, u, hu, rfl⟩ := m_pair.mp hy
      exact ⟨m_pair.mpr ⟨pr x z, m_pair.mpr ⟨x, hx, z, hz, rfl⟩, u, hu, rfl⟩, rfl⟩
  | .thn p q, s, t, h => by
    simp only [typ] at h
    split at h
    · rename_i a b c e h1 h2
      split at h
      · rename_i hbc
        subst hbc
        cases h
        obtain ⟨p1, p2⟩ := iso p _ _ h1
        obtain ⟨q1, q2⟩ := iso q _ _ h2
        refine ⟨fun v hv => ?_, fun u hu => ?_⟩
        · obtain ⟨g1, g2⟩ := p1 v hv
          obtain ⟨g3, g4⟩ := q1 _ g1
          exact ⟨by simpa only [run] using g3, by simp only [run, bk, g4, g2]⟩
        · obtain ⟨g1, g2⟩ := q2 u hu
          obtain ⟨g3, g4⟩ := p2 _ g1
          exact ⟨by simpa only [bk] using g3, by simp only [run, bk, g4, g2]⟩
      · cases h
    · cases h
  | .eth p q, s, t, h => by
    simp only [typ] at h
    split at h
    · rename_i a b c e h1 h2
      cases h
      obtain ⟨p1, p2⟩ := iso p _ _ h1
      obtain ⟨q1, q2⟩ := iso q _ _ h2
      refine ⟨fun v hv => ?_, fun v hv => ?_⟩ <;> rcases m_sum.mp hv with ⟨x, hx, rfl⟩ | ⟨x, hx, rfl⟩
      · obtain ⟨g1, g2⟩ := p1 x hx
        exact ⟨by simp only [run, isL_lf, if_true, at1_lf]; exact m_sum.mpr (.inl ⟨_, g1, rfl⟩), by simp [run, bk, isL_lf, at1_lf, g2]⟩
      · obtain ⟨g1, g2⟩ := q1 x hx
        exact ⟨by simp only [run, isL_rt, Bool.false_eq_true, if_false, at1_rt]; exact m_sum.mpr (.inr ⟨_, g1, rfl⟩), by simp [run, bk, isL_rt, at1_rt, g2]⟩
      · obtain ⟨g1, g2⟩ := p2 x hx
        exact ⟨by simp only [bk, isL_lf, if_true, at1_lf]; exact m_sum.mpr (.inl ⟨_, g1, rfl⟩), by simp [run, bk, isL_lf, at1_lf, g2]⟩
      · obtain ⟨g1, g2⟩ := q2 x hx
        exact ⟨by simp only [bk, isL_rt, Bool.false_eq_true, if_false, at1_rt]; exact m_sum.mpr (.inr ⟨_, g1, rfl⟩), by simp [run, bk, isL_rt, at1_rt, g2]⟩
    · cases h
  | .bth p q, s, t, h => by
    simp only [typ] at h
    split at h
    · rename_i a b c e h1 h2
      cases h
      obtain ⟨p1, p2⟩ := iso p _ _ h1
      obtain ⟨q1, q2⟩ := iso q _ _ h2
      refine ⟨fun v hv => ?_, fun v hv => ?_⟩ <;> obtain ⟨x, hx, y, hy, rfl⟩ := m_pair.mp hv
      · obtain ⟨g1, g2⟩ := p1 x hx
        obtain ⟨g3, g4⟩ := q1 y hy
        exact ⟨by simp only [run, at0_pr, at1_pr]; exact m_pair.mpr ⟨_, g1, _, g3, rfl⟩, by simp [run, bk, at0_pr, at1_pr, g2, g4]⟩
      · obtain ⟨g1, g2⟩ := p2 x hx
        obtain ⟨g3, g4⟩ := q2 y hy
        exact ⟨by simp only [bk, at0_pr, at1_pr]; exact m_pair.mpr ⟨_, g1, _, g3, rfl⟩, by simp [run, bk, at0_pr, at1_pr, g2, g4]⟩
    · cases h
  | .und p, s, t, h => by
    simp only [typ, Option.map_eq_some_iff] at h
    obtain ⟨⟨a, b⟩, h1, h2⟩ := h
    cases h2
    obtain ⟨p1, p2⟩ := iso p _ _ h1
    exact ⟨fun v hv => ⟨by simpa only [run] using (p2 v hv).1, by simpa only [run, bk] using (p2 v hv).2⟩, fun v hv => ⟨by simpa only [bk] using (p1 v hv).1, by simpa only [run, bk] using (p1 v hv).2⟩⟩
/-! ### undone -/
mutual
def und' : P → P
  | .same a => .same a
  | .turnS a b => .turnS b a
  | .turnP a b => .turnP b a
  | .thn p q => .thn (und' q) (und' p)
  | .eth p q => .eth (und' p) (und' q)
  | .bth p q => .bth (und' p) (und' q)
  | .und p => wu p
  | .drop a => .und (.drop a)
  | .spread a b c => .und (.spread a b c)
  | .shiftS a b c => .und (.shiftS a b c)
  | .shiftP a b c => .und (.shiftP a b c)
def wu : P → P
  | .und p => und' p
  | .thn p q => .thn (wu p) (wu q)
  | .eth p q => .eth (wu p) (wu q)
  | .bth p q => .bth (wu p) (wu q)
  | p => p
end
def plain : P → Bool
  | .und p => match p with
    | .spread .. => true
    | .shiftS .. => true
    | .shiftP .. => true
    | .drop .. => true
    | _ => false
  | .thn p q => plain p && plain q
  | .eth p q => plain p && plain q
  | .bth p q => plain p && plain q
  | _ => true
mutual
theorem und_plain : ∀ p : P, plain (und' p) = true
  | .same a => rfl
  | .turnS a b => rfl
  | .turnP a b => rfl
  | .thn p q => by simp [und', plain, und_plain p, und_plain q]
  | .eth p q => by simp [und', plain, und_plain p, und_plain q]
  | .bth p q => by simp [und', plain, und_plain p, und_plain q]
  | .und p => by simp only [und']; exact wu_plain p
  | .drop a => rfl
  | .spread a b c => rfl
  | .shiftS a b c => rfl
  | .shiftP a b c => rfl
theorem wu_plain : ∀ p : P, plain (wu p) = true
  | .und p => by simp only [wu]; exact und_plain p
  | .thn p q => by simp [wu, plain, wu_plain p, wu_plain q]
  | .eth p q => by simp [wu, plain, wu_plain p, wu_plain q]
  | .bth p q => by simp [wu, plain, wu_plain p, wu_plain q]
  | .same a => rfl
  | .turnS a b => rfl
  | .turnP a b => rfl
  | .drop a => rfl
  | .spread a b c => rfl
  | .shiftS a b c => rfl
  | .shiftP a b c => rfl
end
def swap (o : Option (Ty × Ty)) : Option (Ty × Ty) := o.map fun q => (q.2, q.1)
theorem swap_swap (o : Option (Ty × Ty)) : swap (swap o) = o := by cases o <;> rfl
mutual
theorem und_typ : ∀ p : P, typ (und' p) = swap (typ p)
  | .same a => rfl
  | .turnS a b => rfl
  | .turnP a b => rfl
  | .thn p q => by
    simp only [und', typ, und_typ p, und_typ q]
    cases hp : typ p with
    | none => cases hq : typ q <;> simp [swap]
    | some x =>
      obtain ⟨a, b⟩ := x
      cases hq : typ q with
      | none => simp [swap]
      | some y =>
        obtain ⟨c, e⟩ := y
        simp only [swap, Option.map_some]
        by_cases h : b = c
        · simp [h]
        · have h2 : ¬ c = b := fun e => h e.symm
          simp [h, h2]
  | .eth p q => by
    simp only [und', typ, und_typ p, und_typ q]
    cases hp : typ p with
    | none => cases hq : typ q <;> simp [swap]
    | some x => cases hq : typ q <;> simp [swap]
  | .bth p q => by
    simp only [und', typ, und_typ p, und_typ q]
    cases hp : typ p with
    | none => cases hq : typ q <;> simp [swap]
    | some x => cases hq : typ q <;> simp [swap]
  | .und p => by
    simp only [und', typ]
    rw [wu_typ p]
    exact (swap_swap _).symm
  | .drop a => rfl
  | .spread a b c => rfl
  | .shiftS a b c => rfl
  | .shiftP a b c => rfl
theorem wu_typ : ∀ p : P, typ (wu p) = typ p
  | .und p => by simp only [wu, und_typ p]; rfl
  | .thn p q => by simp only [wu, typ, wu_typ p, wu_typ q]
  | .eth p q => by simp only [wu, typ, wu_typ p, wu_typ q]
  | .bth p q => by simp only [wu, typ, wu_typ p, wu_typ q]
  | .same a => rfl
  | .turnS a b => rfl
  | .turnP a b => rfl
  | .drop a => rfl
  | .spread a b c => rfl
  | .shiftS a b c => rfl
  | .shiftP a b c => rfl
end
mutual
theorem und_run : ∀ (p : P) (v : D), run (und' p) v = bk p v ∧ bk (und' p) v = run p v
  | .same a, v => ⟨rfl, rfl⟩
  | .turnS a b, v => ⟨rfl, rfl⟩
  | .turnP a b, v => ⟨rfl, rfl⟩
  | .thn p q, v => by
    simp only [und', run, bk, (und_run q v).1, (und_run p _).1, (und_run p v).2, (und_run q _).2]
    exact ⟨trivial, trivial⟩
  | .eth p q, v => by
    simp only [und', run, bk, (und_run p _).1, (und_run q _).1, (und_run p _).2, (und_run q _).2]
    exact ⟨trivial, trivial⟩
  | .bth p q, v => by
    simp only [und', run, bk, (und_run p _).1, (und_run q _).1, (und_run p _).2, (und_run q _).2]
    exact ⟨trivial, trivial⟩
  | .und p, v => by
    simp only [und', run, bk]
    exact wu_run p v
  | .drop a, v => ⟨rfl, rfl⟩
  | .spread a b c, v => ⟨rfl, rfl⟩
  | .shiftS a b c, v => ⟨rfl, rfl⟩
  | .shiftP a b c, v => ⟨rfl, rfl⟩
theorem wu_run : ∀ (p : P) (v : D), run (wu p) v = run p v ∧ bk (wu p) v = bk p v
  | .und p, v => by simp only [wu, run, bk]; exact und_run p v
  | .thn p q, v => by simp only [wu, run, bk, (wu_run p _).1, (wu_run q _).1, (wu_run p _).2, (wu_run q _).2]; exact ⟨trivial, trivial⟩
  | .eth p q, v => by simp only [wu, run, bk, (wu_run p _).1, (wu_run q _).1, (wu_run p _).2, (wu_run q _).2]; exact ⟨trivial, trivial⟩
  | .bth p q, v => by simp only [wu, run, bk, (wu_run p _).1, (wu_run q _).1, (wu_run p _).2, (wu_run q _).2]; exact ⟨trivial, trivial⟩
  | .same a, v => ⟨rfl, rfl⟩
  | .turnS a b, v => ⟨rfl, rfl⟩
  | .turnP a b, v => ⟨rfl, rfl⟩
  | .drop a, v => ⟨rfl, rfl⟩
  | .spread a b c, v => ⟨rfl, rfl⟩
  | .shiftS a b c, v => ⟨rfl, rfl⟩
  | .shiftP a b c, v => ⟨rfl, rfl⟩
end
end L_k62
set_option Elab.async false
set_option linter.all false
set_option maxRecDepth 100000
set_option autoImplicit false
set_option maxHeartbeats 0
namespace L_k62
open PySem PySem.Spec PyProof.Rows L2 PL
/-! ### depth -/
def pd : P → Nat
  | .same a => a.dep
  | .drop a => a.dep + 1
  | .turnS a b => max a.dep b.dep + 1
  | .turnP a b => max a.dep b.dep + 1
  | .spread a b c => max a.dep (max b.dep c.dep) + 2
  | .shiftS a b c => max a.dep (max b.dep c.dep) + 2
  | .shiftP a b c => max a.dep (max b.dep c.dep) + 2
  | .thn p q => max (pd p) (pd q)
  | .eth p q => max (pd p) (pd q) + 1
  | .bth p q => max (pd p) (pd q) + 1
  | .und p => pd p
def ph : P → Nat
  | .thn p q => max (ph p) (ph q) + 1
  | .eth p q => max (ph p) (ph q) + 1
  | .bth p q => max (ph p) (ph q) + 1
  | .und p => ph p + 1
  | _ => 0
theorem ty_ok : ∀ (t : Ty) (n : Nat), t.dep ≤ n → okD (n + 1) t.d = true
  | .one, n, _ => okD_tup_mk (by simp) (by intro d h; simp at h; subst h; exact okD_lit _ _)
  | .sum a b, n, h => by
    rw [Ty.dep] at h
    obtain ⟨m, rfl⟩ : ∃ m, n = m + 1 := ⟨n - 1, by omega⟩
    exact okD_tup_mk (by simp) (by
      intro d hd
      simp at hd
      rcases hd with rfl | rfl | rfl
      · exact okD_lit _ _
      · exact ty_ok a m (by omega)
      · exact ty_ok b m (by omega))
  | .pair a b, n, h => by
    rw [Ty.dep] at h
    obtain ⟨m, rfl⟩ : ∃ m, n = m + 1 := ⟨n - 1, by omega⟩
    exact okD_tup_mk (by simp) (by
      intro d hd
      simp at hd
      rcases hd with rfl | rfl | rfl
      · exact okD_lit _ _
      · exact ty_ok a m (by omega)
      · exact ty_ok b m (by omega))
theorem ty64 {t : Ty} (h : t.dep ≤ 50) : okD 64 t.d = true := okD_mono _ _ _ (by omega) (ty_ok t 50 h)
theorem ty_eq : ∀ a b : Ty, eqD a.d b.d = decide (a = b)
  | .one, .one => by simp [Ty.d, eqD, eqDs]
  | .one, .sum c e => by simp [Ty.d, eqD, eqDs, ofS_inj]
  | .one, .pair c e => by simp [Ty.d, eqD, eqDs, ofS_inj]
  | .sum a b, .one => by simp [Ty.d, eqD, eqDs, ofS_inj]
  | .pair a b, .one => by simp [Ty.d, eqD, eqDs, ofS_inj]
  | .sum a b, .sum c e => by simp [Ty.d, eqD, eqDs, ty_eq a c, ty_eq b e]
  | .sum a b, .pair c e => by simp [Ty.d, eqD, eqDs, ofS_inj]
  | .pair a b, .sum c e => by simp [Ty.d, eqD, eqDs, ofS_inj]
  | .pair a b, .pair c e => by simp [Ty.d, eqD, eqDs, ty_eq a c, ty_eq b e]
theorem ty_alk : ∀ a : Ty, alk a.d a.d = true
  | .one => by simp [Ty.d, alk, alks]
  | .sum a b => by simp [Ty.d, alk, alks, ty_alk a, ty_alk b]
  | .pair a b => by simp [Ty.d, alk, alks, ty_alk a, ty_alk b]
theorem pEq_ty {s : S} {a b : Ty} (ha : a.dep ≤ 50) (hb : b.dep ≤ 50) : pEq s (.tr (.fz a.d)) (.tr (.fz b.d)) = .ok (.tr (.fz (.bl (decide (a = b))))) s := by rw [pEq_fz (ty64 ha) (ty64 hb), ty_eq]
theorem typ_dep : ∀ (p : P) (s t : Ty), typ p = some (s, t) → s.dep ≤ pd p ∧ t.dep ≤ pd p
  | .same a, s, t, h => by cases h; simp [pd]
  | .drop a, s, t, h => by cases h; simp [pd, Ty.dep]
  | .turnS a b, s, t, h => by cases h; simp only [pd, Ty.dep]; omega
  | .turnP a b, s, t, h => by cases h; simp only [pd, Ty.dep]; omega
  | .spread a b c, s, t, h => by cases h; simp only [pd, Ty.dep]; omega
  | .shiftS a b c, s, t, h => by cases h; simp only [pd, Ty.dep]; omega
  | .shiftP a b c, s, t, h => by cases h; simp only [pd, Ty.dep]; omega
  | .thn p q, s, t, h => by
    simp only [typ] at h
    split at h
    · rename_i a b c e h1 h2
      split at h
      · cases h
        have := typ_dep p _ _ h1
        have := typ_dep q _ _ h2
        simp only [pd]; omega
      · cases h
    · cases h
  | .eth p q, s, t, h => by
    simp only [typ] at h
    split at h
    · rename_i a b c e h1 h2
      cases h
      have := typ_dep p _ _ h1
      have := typ_dep q _ _ h2
      simp only [pd, Ty.dep]; omega
    · cases h
  | .bth p q, s, t, h => by
    simp only [typ] at h
    split at h
    · rename_i a b c e h1 h2
      cases h
      have := typ_dep p _ _ h1
      have := typ_dep q _ _ h2
      simp only [pd, Ty.dep]; omega
    · cases h
  | .und p, s, t, h => by
    simp only [typ, Option.map_eq_some_iff] at h
    obtain ⟨⟨a, b⟩, h1, h2⟩ := h
    cases h2
    have := typ_dep p _ _ h1
    simp only [pd]; omega
/-! ### types of programs -/
def tyD : Option (Ty × Ty) → D
  | none => .non
  | some (a, b) => .tup [a.d, b.d]
theorem tyD_n : tyD none = .non := rfl
theorem tyD_s (a b : Ty) : tyD (some (a, b)) = .tup [a.d, b.d] := rfl
theorem fi_sum : fnIx infos "sum_of" = some (0, 2) := by decide +kernel
theorem fi_pair : fnIx infos "pair_of" = some (1, 2) := by decide +kernel
theorem sum_of_ok (k : Nat) (a b : D) (ob : List T) : Fk (k + 1) 0 [a, b] ob = .ok (.fz (.tup [.str "sum", a, b])) ob := by
  rw [Fk_sum_of, fnD_fin]
  simp only [List.map_cons, List.map_nil, List.replicate, List.cons_append, List.nil_append]
  simp [m_sum_of, sSeq, sIf, sAsg, sAsgT, sAug, sPar, sFor, sForget, sRet, sRetN, sAppend, sExtend, sNext, sBrk, sCont, sDrop, appv, isLst, gB, bv, gNp, npv, gOp, gUn, gVar, gC, gCB, gFz, fzv, gTru, tru, gAndT, gOrT, gNotT, gAnd, gOr, gNot, gIf, PL.gTup, gLst, gIsi, gIsi2, tyN_non, tyN_bl, tyN_int, tyN_str, tyN_tup, tyN_lst, tyN_tl, gSl, oNone, oSome, intv, aNil, aCons, iRange1, iRange2, rng1, rng2, iOf, itv, bLen, bAbs, bInt, bTuple, bList, lenT, pI, pAdd, pIx4, pIx, pDGet, dctAt, dat, look, tgName, forgets, retv, gCall, T.able, T.view, List.getElem?_cons_zero, List.getElem?_cons_succ, List.set_cons_zero, List.set_cons_succ, R.bind_ok, R.bindO_ok, List.length_cons, List.length_nil, dats, trees, lsd, fin, ables_map, views_map', ables_nil, views_nil, ables_cons, views_cons, filter_true', atI_c0, atI_c1, atI_c2, atI_nil, sz_0, sz_1, sz_2, sz_3, sz_4, sz_5, sz_6, sz_7, sz_8, sz_9, sz_10, sz_11, sz_12, sz_13, sz_14, sz_15]
theorem pair_of_ok (k : Nat) (a b : D) (ob : List T) : Fk (k + 1) 1 [a, b] ob = .ok (.fz (.tup [.str "pair", a, b])) ob := by
  rw [Fk_pair_of, fnD_fin]
  simp only [List.map_cons, List.map_nil, List.replicate, List.cons_append, List.nil_append]
  simp [m_pair_of, sSeq, sIf, sAsg, sAsgT, sAug, sPar, sFor, sForget, sRet, sRetN, sAppend, sExtend, sNext, sBrk, sCont, sDrop, appv, isLst, gB, bv, gNp, npv, gOp, gUn, gVar, gC, gCB, gFz, fzv, gTru, tru, gAndT, gOrT, gNotT, gAnd, gOr, gNot, gIf, PL.gTup, gLst, gIsi, gIsi2, tyN_non, tyN_bl, tyN_int, tyN_str, tyN_tup, tyN_lst, tyN_tl, gSl, oNone, oSome, intv, aNil, aCons, iRange1, iRange2, rng1, rng2, iOf, itv, bLen, bAbs, bInt, bTuple, bList, lenT, pI, pAdd, pIx4, pIx, pDGet, dctAt, dat, look, tgName, forgets, retv, gCall, T.able, T.view, List.getElem?_cons_zero, List.getElem?_cons_succ, List.set_cons_zero, List.set_cons_succ, R.bind_ok, R.bindO_ok, List.length_cons, List.length_nil, dats, trees, lsd, fin, ables_map, views_map', ables_nil, views_nil, ables_cons, views_cons, filter_true', atI_c0, atI_c1, atI_c2, atI_nil, sz_0, sz_1, sz_2, sz_3, sz_4, sz_5, sz_6, sz_7, sz_8, sz_9, sz_10, sz_11, sz_12, sz_13, sz_14, sz_15]
theorem plain_type_ok (k : Nat) (p : P) (ob : List T) (hp : ph p = 0) : Fk (k + 2) 2 [p.d] ob = .ok (.fz (tyD (typ p))) ob := by
  have es := fun a b ob => sum_of_ok k a b ob
  have ep := fun a b ob => pair_of_ok k a b ob
  rw [Fk_plain_type, fnD_fin]
  simp only [List.map_cons, List.map_nil, List.replicate, List.cons_append, List.nil_append]
  cases p <;> (try (simp [ph] at hp; done)) <;> simp [m_plain_type, P.d, typ, tyD_n, tyD_s, Ty.d, sSeq, sIf, sAsg, sAsgT, sAug, sPar, sFor, sForget, sRet, sRetN, sAppend, sExtend, sNext, sBrk, sCont, sDrop, appv, isLst, gB, bv, gNp, npv, gOp, gUn, gVar, gC, gCB, gFz, fzv, gTru, tru, gAndT, gOrT, gNotT, gAnd, gOr, gNot, gIf, PL.gTup, gLst, gIsi, gIsi2, tyN_non, tyN_bl, tyN_int, tyN_str, tyN_tup, tyN_lst, tyN_tl, gSl, oNone, oSome, intv, aNil, aCons, iRange1, iRange2, rng1, rng2, iOf, itv, bLen, bAbs, bInt, bTuple, bList, lenT, pI, pAdd, pIx4, pIx, pDGet, dctAt, dat, look, tgName, forgets, retv, gCall, T.able, T.view, List.getElem?_cons_zero, List.getElem?_cons_succ, List.set_cons_zero, List.set_cons_succ, R.bind_ok, R.bindO_ok, List.length_cons, List.length_nil, dats, trees, lsd, fin, ables_map, views_map', ables_nil, views_nil, ables_cons, views_cons, filter_true', atI_c0, atI_c1, atI_c2, atI_nil, sz_0, sz_1, sz_2, sz_3, sz_4, sz_5, sz_6, sz_7, sz_8, sz_9, sz_10, sz_11, sz_12, sz_13, sz_14, sz_15, pEq_lit, pNe_lit, pIn_2, pIn_3, pIn_4, pNotIn_3, pNotIn_4, pEq_int, pNe_int, okD_lit, okD_int, okD_non, okD_bl, es, ep, tgTup, tgsCons, tgsNil, gCallV, lenIs, fi_sum, fi_pair]
theorem type_of_ok : ∀ (p : P) (k : Nat) (ob : List T), ph p + 2 < k → pd p ≤ 50 → Fk k 3 [p.d] ob = .ok (.fz (tyD (typ p))) ob
  | .thn p q, k + 1, ob, hk, hd => by
    simp only [ph] at hk
    simp only [pd] at hd
    have e1 := type_of_ok p k ob (by omega) (by omega)
    have e2 := type_of_ok q k ob (by omega) (by omega)
    rw [Fk_type_of, fnD_fin]
    simp only [List.map_cons, List.map_nil, List.replicate, List.cons_append, List.nil_append]
    cases h1 : typ p with
    | none => rw [h1] at e1; simp [m_type_of, P.d, typ, tyD_n, tyD_s, sSeq, sIf, sAsg, sAsgT, sAug, sPar, sFor, sForget, sRet, sRetN, sAppend, sExtend, sNext, sBrk, sCont, sDrop, appv, isLst, gB, bv, gNp, npv, gOp, gUn, gVar, gC, gCB, gFz, fzv, gTru, tru, gAndT, gOrT, gNotT, gAnd, gOr, gNot, gIf, PL.gTup, gLst, gIsi, gIsi2, tyN_non, tyN_bl, tyN_int, tyN_str, tyN_tup, tyN_lst, tyN_tl, gSl, oNone, oSome, intv, aNil, aCons, iRange1, iRange2, rng1, rng2, iOf, itv, bLen, bAbs, bInt, bTuple, bList, lenT, pI, pAdd, pIx4, pIx, pDGet, dctAt, dat, look, tgName, forgets, retv, gCall, T.able, T.view, List.getElem?_cons_zero, List.getElem?_cons_succ, List.set_cons_zero, List.set_cons_succ, R.bind_ok, R.bindO_ok, List.length_cons, List.length_nil, dats, trees, lsd, fin, ables_map, views_map', ables_nil, views_nil, ables_cons, views_cons, filter_true', atI_c0, atI_c1, atI_c2, atI_nil, sz_0, sz_1, sz_2, sz_3, sz_4, sz_5, sz_6, sz_7, sz_8, sz_9, sz_10, sz_11, sz_12, sz_13, sz_14, sz_15, pEq_lit, pNe_lit, pIn_2, pIn_3, pIn_4, pNotIn_3, pNotIn_4, pEq_int, pNe_int, okD_lit, okD_int, okD_non, okD_bl, e1, e2, h1, pIsN, PL.isNon]
    | some x =>
      obtain ⟨a, b⟩ := x
      rw [h1] at e1
      cases h2 : typ q with
      | none => rw [h2] at e2; simp [m_type_of, P.d, typ, tyD_n, tyD_s, sSeq, sIf, sAsg, sAsgT, sAug, sPar, sFor, sForget, sRet, sRetN, sAppend, sExtend, sNext, sBrk, sCont, sDrop, appv, isLst, gB, bv, gNp, npv, gOp, gUn, gVar, gC, gCB, gFz, fzv, gTru, tru, gAndT, gOrT, gNotT, gAnd, gOr, gNot, gIf, PL.gTup, gLst, gIsi, gIsi2, tyN_non, tyN_bl, tyN_int, tyN_str, tyN_tup, tyN_lst, tyN_tl, gSl, oNone, oSome, intv, aNil, aCons, iRange1, iRange2, rng1, rng2, iOf, itv, bLen, bAbs, bInt, bTuple, bList, lenT, pI, pAdd, pIx4, pIx, pDGet, dctAt, dat, look, tgName, forgets, retv, gCall, T.able, T.view, List.getElem?_cons_zero, List.getElem?_cons_succ, List.set_cons_zero, List.set_cons_succ, R.bind_ok, R.bindO_ok, List.length_cons, List.length_nil, dats, trees, lsd, fin, ables_map, views_map', ables_nil, views_nil, ables_cons, views_cons, filter_true', atI_c0, atI_c1, atI_c2, atI_nil, sz_0, sz_1, sz_2, sz_3, sz_4, sz_5, sz_6, sz_7, sz_8, sz_9, sz_10, sz_11, sz_12, sz_13, sz_14, sz_15, pEq_lit, pNe_lit, pIn_2, pIn_3, pIn_4, pNotIn_3, pNotIn_4, pEq_int, pNe_int, okD_lit, okD_int, okD_non, okD_bl, e1, e2, h1, h2, pIsN, PL.isNon]
      | some y =>
        obtain ⟨c, e⟩ := y
        rw [h2] at e2
        have d1 := typ_dep p _ _ h1
        have d2 := typ_dep q _ _ h2
        have eq := fun s => pEq_ty (s := s) (a := b) (b := c) (by omega) (by omega)
        by_cases hbc : b = c
        · subst hbc
          simp [m_type_of, P.d, typ, tyD_n, tyD_s, sSeq, sIf, sAsg, sAsgT, sAug, sPar, sFor, sForget, sRet, sRetN, sAppend, sExtend, sNext, sBrk, sCont, sDrop, appv, isLst, gB, bv, gNp, npv, gOp, gUn, gVar, gC, gCB, gFz, fzv, gTru, tru, gAndT, gOrT, gNotT, gAnd, gOr, gNot, gIf, PL.gTup, gLst, gIsi, gIsi2, tyN_non, tyN_bl, tyN_int, tyN_str, tyN_tup, tyN_lst, tyN_tl, gSl, oNone, oSome, intv, aNil, aCons, iRange1, iRange2, rng1, rng2, iOf, itv, bLen, bAbs, bInt, bTuple, bList, lenT, pI, pAdd, pIx4, pIx, pDGet, dctAt, dat, look, tgName, forgets, retv, gCall, T.able, T.view, List.getElem?_cons_zero, List.getElem?_cons_succ, List.set_cons_zero, List.set_cons_succ, R.bind_ok, R.bindO_ok, List.length_cons, List.length_nil, dats, trees, lsd, fin, ables_map, views_map', ables_nil, views_nil, ables_cons, views_cons, filter_true', atI_c0, atI_c1, atI_c2, atI_nil, sz_0, sz_1, sz_2, sz_3, sz_4, sz_5, sz_6, sz_7, sz_8, sz_9, sz_10, sz_11, sz_12, sz_13, sz_14, sz_15, pEq_lit, pNe_lit, pIn_2, pIn_3, pIn_4, pNotIn_3, pNotIn_4, pEq_int, pNe_int, okD_lit, okD_int, okD_non, okD_bl, e1, e2, h1, h2, pIsN, PL.isNon, eq]
        · simp [m_type_of, P.d, typ, tyD_n, tyD_s, sSeq, sIf, sAsg, sAsgT, sAug, sPar, sFor, sForget, sRet, sRetN, sAppend, sExtend, sNext, sBrk, sCont, sDrop, appv, isLst, gB, bv, gNp, npv, gOp, gUn, gVar, gC, gCB, gFz, fzv, gTru, tru, gAndT, gOrT, gNotT, gAnd, gOr, gNot, gIf, PL.gTup, gLst, gIsi, gIsi2, tyN_non, tyN_bl, tyN_int, tyN_str, tyN_tup, tyN_lst, tyN_tl, gSl, oNone, oSome, intv, aNil, aCons, iRange1, iRange2, rng1, rng2, iOf, itv, bLen, bAbs, bInt, bTuple, bList, lenT, pI, pAdd, pIx4, pIx, pDGet, dctAt, dat, look, tgName, forgets, retv, gCall, T.able, T.view, List.getElem?_cons_zero, List.getElem?_cons_succ, List.set_cons_zero, List.set_cons_succ, R.bind_ok, R.bindO_ok, List.length_cons, List.length_nil, dats, trees, lsd, fin, ables_map, views_map', ables_nil, views_nil, ables_cons, views_cons, filter_true', atI_c0, atI_c1, atI_c2, atI_nil, sz_0, sz_1, sz_2, sz_3, sz_4, sz_5, sz_6, sz_7, sz_8, sz_9, sz_10, sz_11, sz_12, sz_13, sz_14, sz_15, pEq_lit, pNe_lit, pIn_2, pIn_3, pIn_4, pNotIn_3, pNotIn_4, pEq_int, pNe_int, okD_lit, okD_int, okD_non, okD_bl, e1, e2, h1, h2, pIsN, PL.isNon, eq, hbc]
  | .eth p q, k + 2, ob, hk, hd => by
    simp only [ph] at hk
    simp only [pd] at hd
    have e1 := type_of_ok p (k + 1) ob (by omega) (by omega)
    have e2 := type_of_ok q (k + 1) ob (by omega) (by omega)
    have es := fun a b ob => sum_of_ok k a b ob
    rw [Fk_type_of, fnD_fin]
    simp only [List.map_cons, List.map_nil, List.replicate, List.cons_append, List.nil_append]
    cases h1 : typ p with
    | none => rw [h1] at e1; simp [m_type_of, P.d, typ, tyD_n, tyD_s, sSeq, sIf, sAsg, sAsgT, sAug, sPar, sFor, sForget, sRet, sRetN, sAppend, sExtend, sNext, sBrk, sCont, sDrop, appv, isLst, gB, bv, gNp, npv, gOp, gUn, gVar, gC, gCB, gFz, fzv, gTru, tru, gAndT, gOrT, gNotT, gAnd, gOr, gNot, gIf, PL.gTup, gLst, gIsi, gIsi2, tyN_non, tyN_bl, tyN_int, tyN_str, tyN_tup, tyN_lst, tyN_tl, gSl, oNone, oSome, intv, aNil, aCons, iRange1, iRange2, rng1, rng2, iOf, itv, bLen, bAbs, bInt, bTuple, bList, lenT, pI, pAdd, pIx4, pIx, pDGet, dctAt, dat, look, tgName, forgets, retv, gCall, T.able, T.view, List.getElem?_cons_zero, List.getElem?_cons_succ, List.set_cons_zero, List.set_cons_succ, R.bind_ok, R.bindO_ok, List.length_cons, List.length_nil, dats, trees, lsd, fin, ables_map, views_map', ables_nil, views_nil, ables_cons, views_cons, filter_true', atI_c0, atI_c1, atI_c2, atI_nil, sz_0, sz_1, sz_2, sz_3, sz_4, sz_5, sz_6, sz_7, sz_8, sz_9, sz_10, sz_11, sz_12, sz_13, sz_14, sz_15, pEq_lit, pNe_lit, pIn_2, pIn_3, pIn_4, pNotIn_3, pNotIn_4, pEq_int, pNe_int, okD_lit, okD_int, okD_non, okD_bl, e1, e2, h1, pIsN, PL.isNon]
    | some x =>
      obtain ⟨a, b⟩ := x
      rw [h1] at e1
      cases h2 : typ q with
      | none => rw [h2] at e2; simp [m_type_of, P.d, typ, tyD_n, tyD_s, sSeq, sIf, sAsg, sAsgT, sAug, sPar, sFor, sForget, sRet, sRetN, sAppend, sExtend, sNext, sBrk, sCont, sDrop, appv, isLst, gB, bv, gNp, npv, gOp, gUn, gVar, gC, gCB, gFz, fzv, gTru, tru, gAndT, gOrT, gNotT, gAnd, gOr, gNot, gIf, PL.gTup, gLst, gIsi, gIsi2, tyN_non, tyN_bl, tyN_int, tyN_str, tyN_tup, tyN_lst, tyN_tl, gSl, oNone, oSome, intv, aNil, aCons, iRange1, iRange2, rng1, rng2, iOf, itv, bLen, bAbs, bInt, bTuple, bList, lenT, pI, pAdd, pIx4, pIx, pDGet, dctAt, dat, look, tgName, forgets, retv, gCall, T.able, T.view, List.getElem?_cons_zero, List.getElem?_cons_succ, List.set_cons_zero, List.set_cons_succ, R.bind_ok, R.bindO_ok, List.length_cons, List.length_nil, dats, trees, lsd, fin, ables_map, views_map', ables_nil, views_nil, ables_cons, views_cons, filter_true', atI_c0, atI_c1, atI_c2, atI_nil, sz_0, sz_1, sz_2, sz_3, sz_4, sz_5, sz_6, sz_7, sz_8, sz_9, sz_10, sz_11, sz_12, sz_13, sz_14, sz_15, pEq_lit, pNe_lit, pIn_2, pIn_3, pIn_4, pNotIn_3, pNotIn_4, pEq_int, pNe_int, okD_lit, okD_int, okD_non, okD_bl, e1, e2, h1, h2, pIsN, PL.isNon]
      | some y =>
        obtain ⟨c, e⟩ := y
        rw [h2] at e2
        simp [m_type_of, P.d, typ, tyD_n, tyD_s, Ty.d, sSeq, sIf, sAsg, sAsgT, sAug, sPar, sFor, sForget, sRet, sRetN, sAppend, sExtend, sNext, sBrk, sCont, sDrop, appv, isLst, gB, bv, gNp, npv, gOp, gUn, gVar, gC, gCB, gFz, fzv, gTru, tru, gAndT, gOrT, gNotT, gAnd, gOr, gNot, gIf, PL.gTup, gLst, gIsi, gIsi2, tyN_non, tyN_bl, tyN_int, tyN_str, tyN_tup, tyN_lst, tyN_tl, gSl, oNone, oSome, intv, aNil, aCons, iRange1, iRange2, rng1, rng2, iOf, itv, bLen, bAbs, bInt, bTuple, bList, lenT, pI, pAdd, pIx4, pIx, pDGet, dctAt, dat, look, tgName, forgets, retv, gCall, T.able, T.view, List.getElem?_cons_zero, List.getElem?_cons_succ, List.set_cons_zero, List.set_cons_succ, R.bind_ok, R.bindO_ok, List.length_cons, List.length_nil, dats, trees, lsd, fin, ables_map, views_map', ables_nil, views_nil, ables_cons, views_cons, filter_true', atI_c0, atI_c1, atI_c2, atI_nil, sz_0, sz_1, sz_2, sz_3, sz_4, sz_5, sz_6, sz_7, sz_8, sz_9, sz_10, sz_11, sz_12, sz_13, sz_14, sz_15, pEq_lit, pNe_lit, pIn_2, pIn_3, pIn_4, pNotIn_3, pNotIn_4, pEq_int, pNe_int, okD_lit, okD_int, okD_non, okD_bl, e1, e2, h1, h2, pIsN, PL.isNon, gCallV, lenIs, fi_sum, es]
  | .bth p q, k + 2, ob, hk, hd => by
    simp only [ph] at hk
    simp only [pd] at hd
    have e1 := type_of_ok p (k + 1) ob (by omega) (by omega)
    have e2 := type_of_ok q (k + 1) ob (by omega) (by omega)
    have es := fun a b ob => pair_of_ok k a b ob
    rw [Fk_type_of, fnD_fin]
    simp only [List.map_cons, List.map_nil, List.replicate, List.cons_append, List.nil_append]
    cases h1 : typ p with
    | none => rw [h1] at e1; simp [m_type_of, P.d, typ, tyD_n, tyD_s, sSeq, sIf, sAsg, sAsgT, sAug, sPar, sFor, sForget, sRet, sRetN, sAppend, sExtend, sNext, sBrk, sCont, sDrop, appv, isLst, gB, bv, gNp, npv, gOp, gUn, gVar, gC, gCB, gFz, fzv, gTru, tru, gAndT, gOrT, gNotT, gAnd, gOr, gNot, gIf, PL.gTup, gLst, gIsi, gIsi2, tyN_non, tyN_bl, tyN_int, tyN_str, tyN_tup, tyN_lst, tyN_tl, gSl, oNone, oSome, intv, aNil, aCons, iRange1, iRange2, rng1, rng2, iOf, itv, bLen, bAbs, bInt, bTuple, bList, lenT, pI, pAdd, pIx4, pIx, pDGet, dctAt, dat, look, tgName, forgets, retv, gCall, T.able, T.view, List.getElem?_cons_zero, List.getElem?_cons_succ, List.set_cons_zero, List.set_cons_succ, R.bind_ok, R.bindO_ok, List.length_cons, List.length_nil, dats, trees, lsd, fin, ables_map, views_map', ables_nil, views_nil, ables_cons, views_cons, filter_true', atI_c0, atI_c1, atI_c2, atI_nil, sz_0, sz_1, sz_2, sz_3, sz_4, sz_5, sz_6, sz_7, sz_8, sz_9, sz_10, sz_11, sz_12, sz_13, sz_14, sz_15, pEq_lit, pNe_lit, pIn_2, pIn_3, pIn_4, pNotIn_3, pNotIn_4, pEq_int, pNe_int, okD_lit, okD_int, okD_non, okD_bl, e1, e2, h1, pIsN, PL.isNon]
    | some x =>
      obtain ⟨a, b⟩ := x
      rw [h1] at e1
      cases h2 : typ q with
      | none => rw [h2] at e2; simp [m_type_of, P.d, typ, tyD_n, tyD_s, sSeq, sIf, sAsg, sAsgT, sAug, sPar, sFor, sForget, sRet, sRetN, sAppend, sExtend, sNext, sBrk, sCont, sDrop, appv, isLst, gB, bv, gNp, npv, gOp, gUn, gVar, gC, gCB, gFz, fzv, gTru, tru, gAndT, gOrT, gNotT, gAnd, gOr, gNot, gIf, PL.gTup, gLst, gIsi, gIsi2, tyN_non, tyN_bl, tyN_int, tyN_str, tyN_tup, tyN_lst, tyN_tl, gSl, oNone, oSome, intv, aNil, aCons, iRange1, iRange2, rng1, rng2, iOf, itv, bLen, bAbs, bInt, bTuple, bList, lenT, pI, pAdd, pIx4, pIx, pDGet, dctAt, dat, look, tgName, forgets, retv, gCall, T.able, T.view, List.getElem?_cons_zero, List.getElem?_cons_succ, List.set_cons_zero, List.set_cons_succ, R.bind_ok, R.bindO_ok, List.length_cons, List.length_nil, dats, trees, lsd, fin, ables_map, views_map', ables_nil, views_nil, ables_cons, views_cons, filter_true', atI_c0, atI_c1, atI_c2, atI_nil, sz_0, sz_1, sz_2, sz_3, sz_4, sz_5, sz_6, sz_7, sz_8, sz_9, sz_10, sz_11, sz_12, sz_13, sz_14, sz_15, pEq_lit, pNe_lit, pIn_2, pIn_3, pIn_4, pNotIn_3, pNotIn_4, pEq_int, pNe_int, okD_lit, okD_int, okD_non, okD_bl, e1, e2, h1, h2, pIsN, PL.isNon]
      | some y =>
        obtain ⟨c, e⟩ := y
        rw [h2] at e2
        simp [m_type_of, P.d, typ, tyD_n, tyD_s, Ty.d, sSeq, sIf, sAsg, sAsgT, sAug, sPar, sFor, sForget, sRet, sRetN, sAppend, sExtend, sNext, sBrk, sCont, sDrop, appv, isLst, gB, bv, gNp, npv, gOp, gUn, gVar, gC, gCB, gFz, fzv, gTru, tru, gAndT, gOrT, gNotT, gAnd, gOr, gNot, gIf, PL.gTup, gLst, gIsi, gIsi2, tyN_non, tyN_bl, tyN_int, tyN_str, tyN_tup, tyN_lst, tyN_tl, gSl, oNone, oSome, intv, aNil, aCons, iRange1, iRange2, rng1, rng2, iOf, itv, bLen, bAbs, bInt, bTuple, bList, lenT, pI, pAdd, pIx4, pIx, pDGet, dctAt, dat, look, tgName, forgets, retv, gCall, T.able, T.view, List.getElem?_cons_zero, List.getElem?_cons_succ, List.set_cons_zero, List.set_cons_succ, R.bind_ok, R.bindO_ok, List.length_cons, List.length_nil, dats, trees, lsd, fin, ables_map, views_map', ables_nil, views_nil, ables_cons, views_cons, filter_true', atI_c0, atI_c1, atI_c2, atI_nil, sz_0, sz_1, sz_2, sz_3, sz_4, sz_5, sz_6, sz_7, sz_8, sz_9, sz_10, sz_11, sz_12, sz_13, sz_14, sz_15, pEq_lit, pNe_lit, pIn_2, pIn_3, pIn_4, pNotIn_3, pNotIn_4, pEq_int, pNe_int, okD_lit, okD_int, okD_non, okD_bl, e1, e2, h1, h2, pIsN, PL.isNon, gCallV, lenIs, fi_pair, es]
  | .und p, k + 1, ob, hk, hd => by
    simp only [ph] at hk
    simp only [pd] at hd
    have e1 := type_of_ok p k ob (by omega) (by omega)
    rw [Fk_type_of, fnD_fin]
    simp only [List.map_cons, List.map_nil, List.replicate, List.cons_append, List.nil_append]
    cases h1 : typ p with
    | none => rw [h1] at e1; simp [m_type_of, P.d, typ, tyD_n, tyD_s, sSeq, sIf, sAsg, sAsgT, sAug, sPar, sFor, sForget, sRet, sRetN, sAppend, sExtend, sNext, sBrk, sCont, sDrop, appv, isLst, gB, bv, gNp, npv, gOp, gUn, gVar, gC, gCB, gFz, fzv, gTru, tru, gAndT, gOrT, gNotT, gAnd, gOr, gNot, gIf, PL.gTup, gLst, gIsi, gIsi2, tyN_non, tyN_bl, tyN_int, tyN_str, tyN_tup, tyN_lst, tyN_tl, gSl, oNone, oSome, intv, aNil, aCons, iRange1, iRange2, rng1, rng2, iOf, itv, bLen, bAbs, bInt, bTuple, bList, lenT, pI, pAdd, pIx4, pIx, pDGet, dctAt, dat, look, tgName, forgets, retv, gCall, T.able, T.view, List.getElem?_cons_zero, List.getElem?_cons_succ, List.set_cons_zero, List.set_cons_succ, R.bind_ok, R.bindO_ok, List.length_cons, List.length_nil, dats, trees, lsd, fin, ables_map, views_map', ables_nil, views_nil, ables_cons, views_cons, filter_true', atI_c0, atI_c1, atI_c2, atI_nil, sz_0, sz_1, sz_2, sz_3, sz_4, sz_5, sz_6, sz_7, sz_8, sz_9, sz_10, sz_11, sz_12, sz_13, sz_14, sz_15, pEq_lit, pNe_lit, pIn_2, pIn_3, pIn_4, pNotIn_3, pNotIn_4, pEq_int, pNe_int, okD_lit, okD_int, okD_non, okD_bl, e1, h1, pIsN, PL.isNon]
    | some x =>
      obtain ⟨a, b⟩ := x
      rw [h1] at e1
      simp [m_type_of, P.d, typ, tyD_n, tyD_s, sSeq, sIf, sAsg, sAsgT, sAug, sPar, sFor, sForget, sRet, sRetN, sAppend, sExtend, sNext, sBrk, sCont, sDrop, appv, isLst, gB, bv, gNp, npv, gOp, gUn, gVar, gC, gCB, gFz, fzv, gTru, tru, gAndT, gOrT, gNotT, gAnd, gOr, gNot, gIf, PL.gTup, gLst, gIsi, gIsi2, tyN_non, tyN_bl, tyN_int, tyN_str, tyN_tup, tyN_lst, tyN_tl, gSl, oNone, oSome, intv, aNil, aCons, iRange1, iRange2, rng1, rng2, iOf, itv, bLen, bAbs, bInt, bTuple, bList, lenT, pI, pAdd, pIx4, pIx, pDGet, dctAt, dat, look, tgName, forgets, retv, gCall, T.able, T.view, List.getElem?_cons_zero, List.getElem?_cons_succ, List.set_cons_zero, List.set_cons_succ, R.bind_ok, R.bindO_ok, List.length_cons, List.length_nil, dats, trees, lsd, fin, ables_map, views_map', ables_nil, views_nil, ables_cons, views_cons, filter_true', atI_c0, atI_c1, atI_c2, atI_nil, sz_0, sz_1, sz_2, sz_3, sz_4, sz_5, sz_6, sz_7, sz_8, sz_9, sz_10, sz_11, sz_12, sz_13, sz_14, sz_15, pEq_lit, pNe_lit, pIn_2, pIn_3, pIn_4, pNotIn_3, pNotIn_4, pEq_int, pNe_int, okD_lit, okD_int, okD_non, okD_bl, e1, h1, pIsN, PL.isNon, gRev, revv]
  | .same a, k + 3, ob, hk, hd => by
    have e := plain_type_ok k (.same a) ob rfl
    rw [Fk_type_of, fnD_fin]
    simp only [List.map_cons, List.map_nil, List.replicate, List.cons_append, List.nil_append]
    simp only [P.d] at e ⊢
    simp [m_type_of, sSeq, sIf, sAsg, sAsgT, sAug, sPar, sFor, sForget, sRet, sRetN, sAppend, sExtend, sNext, sBrk, sCont, sDrop, appv, isLst, gB, bv, gNp, npv, gOp, gUn, gVar, gC, gCB, gFz, fzv, gTru, tru, gAndT, gOrT, gNotT, gAnd, gOr, gNot, gIf, PL.gTup, gLst, gIsi, gIsi2, tyN_non, tyN_bl, tyN_int, tyN_str, tyN_tup, tyN_lst, tyN_tl, gSl, oNone, oSome, intv, aNil, aCons, iRange1, iRange2, rng1, rng2, iOf, itv, bLen, bAbs, bInt, bTuple, bList, lenT, pI, pAdd, pIx4, pIx, pDGet, dctAt, dat, look, tgName, forgets, retv, gCall, T.able, T.view, List.getElem?_cons_zero, List.getElem?_cons_succ, List.set_cons_zero, List.set_cons_succ, R.bind_ok, R.bindO_ok, List.length_cons, List.length_nil, dats, trees, lsd, fin, ables_map, views_map', ables_nil, views_nil, ables_cons, views_cons, filter_true', atI_c0, atI_c1, atI_c2, atI_nil, sz_0, sz_1, sz_2, sz_3, sz_4, sz_5, sz_6, sz_7, sz_8, sz_9, sz_10, sz_11, sz_12, sz_13, sz_14, sz_15, pEq_lit, pNe_lit, pIn_2, pIn_3, pIn_4, pNotIn_3, pNotIn_4, pEq_int, pNe_int, okD_lit, okD_int, okD_non, okD_bl, e]
  | .drop a, k + 3, ob, hk, hd => by
    have e := plain_type_ok k (.drop a) ob rfl
    rw [Fk_type_of, fnD_fin]
    simp only [List.map_cons, List.map_nil, List.replicate, List.cons_append, List.nil_append]
    simp only [P.d] at e ⊢
    simp [m_type_of, sSeq, sIf, sAsg, sAsgT, sAug, sPar, sFor, sForget, sRet, sRetN, sAppend, sExtend, sNext, sBrk, sCont, sDrop, appv, isLst, gB, bv, gNp, npv, gOp, gUn, gVar, gC, gCB, gFz, fzv, gTru, tru, gAndT, gOrT, gNotT, gAnd, gOr, gNot, gIf, PL.gTup, gLst, gIsi, gIsi2, tyN_non, tyN_bl, tyN_int, tyN_str, tyN_tup, tyN_lst, tyN_tl, gSl, oNone, oSome, intv, aNil, aCons, iRange1, iRange2, rng1, rng2, iOf, itv, bLen, bAbs, bInt, bTuple, bList, lenT, pI, pAdd, pIx4, pIx, pDGet, dctAt, dat, look, tgName, forgets, retv, gCall, T.able, T.view, List.getElem?_cons_zero, List.getElem?_cons_succ, List.set_cons_zero, List.set_cons_succ, R.bind_ok, R.bindO_ok, List.length_cons, List.length_nil, dats, trees, lsd, fin, ables_map, views_map', ables_nil, views_nil, ables_cons, views_cons, filter_true', atI_c0, atI_c1, atI_c2, atI_nil, sz_0, sz_1, sz_2, sz_3, sz_4, sz_5, sz_6, sz_7, sz_8, sz_9, sz_10, sz_11, sz_12, sz_13, sz_14, sz_15, pEq_lit, pNe_lit, pIn_2, pIn_3, pIn_4, pNotIn_3, pNotIn_4, pEq_int, pNe_int, okD_lit, okD_int, okD_non, okD_bl, e]
  | .turnS a b, k + 3, ob, hk, hd => by
    have e := plain_type_ok k (.turnS a b) ob rfl
    rw [Fk_type_of, fnD_fin]
    simp only [List.map_cons, List.map_nil, List.replicate, List.cons_append, List.nil_append]
    simp only [P.d] at e ⊢
    simp [m_type_of, sSeq, sIf, sAsg, sAsgT, sAug, sPar, sFor, sForget, sRet, sRetN, sAppend, sExtend, sNext, sBrk, sCont, sDrop, appv, isLst, gB, bv, gNp, npv, gOp, gUn, gVar, gC, gCB, gFz, fzv, gTru, tru, gAndT, gOrT, gNotT, gAnd, gOr, gNot, gIf, PL.gTup, gLst, gIsi, gIsi2, tyN_non, tyN_bl, tyN_int, tyN_str, tyN_tup, tyN_lst, tyN_tl, gSl, oNone, oSome, intv, aNil, aCons, iRange1, iRange2, rng1, rng2, iOf, itv, bLen, bAbs, bInt, bTuple, bList, lenT, pI, pAdd, pIx4, pIx, pDGet, dctAt, dat, look, tgName, forgets, retv, gCall, T.able, T.view, List.getElem?_cons_zero, List.getElem?_cons_succ, List.set_cons_zero, List.set_cons_succ, R.bind_ok, R.bindO_ok, List.length_cons, List.length_nil, dats, trees, lsd, fin, ables_map, views_map', ables_nil, views_nil, ables_cons, views_cons, filter_true', atI_c0, atI_c1, atI_c2, atI_nil, sz_0, sz_1, sz_2, sz_3, sz_4, sz_5, sz_6, sz_7, sz_8, sz_9, sz_10, sz_11, sz_12, sz_13, sz_14, sz_15, pEq_lit, pNe_lit, pIn_2, pIn_3, pIn_4, pNotIn_3, pNotIn_4, pEq_int, pNe_int, okD_lit, okD_int, okD_non, okD_bl, e]
  | .turnP a b, k + 3, ob, hk, hd => by
    have e := plain_type_ok k (.turnP a b) ob rfl
    rw [Fk_type_of, fnD_fin]
    simp only [List.map_cons, List.map_nil, List.replicate, List.cons_append, List.nil_append]
    simp only [P.d] at e ⊢
    simp [m_type_of, sSeq, sIf, sAsg, sAsgT, sAug, sPar, sFor, sForget, sRet, sRetN, sAppend, sExtend, sNext, sBrk, sCont, sDrop, appv, isLst, gB, bv, gNp, npv, gOp, gUn, gVar, gC, gCB, gFz, fzv, gTru, tru, gAndT, gOrT, gNotT, gAnd, gOr, gNot, gIf, PL.gTup, gLst, gIsi, gIsi2, tyN_non, tyN_bl, tyN_int, tyN_str, tyN_tup, tyN_lst, tyN_tl, gSl, oNone, oSome, intv, aNil, aCons, iRange1, iRange2, rng1, rng2, iOf, itv, bLen, bAbs, bInt, bTuple, bList, lenT, pI, pAdd, pIx4, pIx, pDGet, dctAt, dat, look, tgName, forgets, retv, gCall, T.able, T.view, List.getElem?_cons_zero, List.getElem?_cons_succ, List.set_cons_zero, List.set_cons_succ, R.bind_ok, R.bindO_ok, List.length_cons, List.length_nil, dats, trees, lsd, fin, ables_map, views_map', ables_nil, views_nil, ables_cons, views_cons, filter_true', atI_c0, atI_c1, atI_c2, atI_nil, sz_0, sz_1, sz_2, sz_3, sz_4, sz_5, sz_6, sz_7, sz_8, sz_9, sz_10, sz_11, sz_12, sz_13, sz_14, sz_15, pEq_lit, pNe_lit, pIn_2, pIn_3, pIn_4, pNotIn_3, pNotIn_4, pEq_int, pNe_int, okD_lit, okD_int, okD_non, okD_bl, e]
  | .spread a b c, k + 3, ob, hk, hd => by
    have e := plain_type_ok k (.spread a b c) ob rfl
    rw [Fk_type_of, fnD_fin]
    simp only [List.map_cons, List.map_nil, List.replicate, List.cons_append, List.nil_append]
    simp only [P.d] at e ⊢
    simp [m_type_of, sSeq, sIf, sAsg, sAsgT, sAug, sPar, sFor, sForget, sRet, sRetN, sAppend, sExtend, sNext, sBrk, sCont, sDrop, appv, isLst, gB, bv, gNp, npv, gOp, gUn, gVar, gC, gCB, gFz, fzv, gTru, tru, gAndT, gOrT, gNotT, gAnd, gOr, gNot, gIf, PL.gTup, gLst, gIsi, gIsi2, tyN_non, tyN_bl, tyN_int, tyN_str, tyN_tup, tyN_lst, tyN_tl, gSl, oNone, oSome, intv, aNil, aCons, iRange1, iRange2, rng1, rng2, iOf, itv, bLen, bAbs, bInt, bTuple, bList, lenT, pI, pAdd, pIx4, pIx, pDGet, dctAt, dat, look, tgName, forgets, retv, gCall, T.able, T.view, List.getElem?_cons_zero, List.getElem?_cons_succ, List.set_cons_zero, List.set_cons_succ, R.bind_ok, R.bindO_ok, List.length_cons, List.length_nil, dats, trees, lsd, fin, ables_map, views_map', ables_nil, views_nil, ables_cons, views_cons, filter_true', atI_c0, atI_c1, atI_c2, atI_nil, sz_0, sz_1, sz_2, sz_3, sz_4, sz_5, sz_6, sz_7, sz_8, sz_9, sz_10, sz_11, sz_12, sz_13, sz_14, sz_15, pEq_lit, pNe_lit, pIn_2, pIn_3, pIn_4, pNotIn_3, pNotIn_4, pEq_int, pNe_int, okD_lit, okD_int, okD_non, okD_bl, e]
  | .shiftS a b c, k + 3, ob, hk, hd => by
    have e := plain_type_ok k (.shiftS a b c) ob rfl
    rw [Fk_type_of, fnD_fin]
    simp only [List.map_cons, List.map_nil, List.replicate, List.cons_append, List.nil_append]
    simp only [P.d] at e ⊢
    simp [m_type_of, sSeq, sIf, sAsg, sAsgT, sAug, sPar, sFor, sForget, sRet, sRetN, sAppend, sExtend, sNext, sBrk, sCont, sDrop, appv, isLst, gB, bv, gNp, npv, gOp, gUn, gVar, gC, gCB, gFz, fzv, gTru, tru, gAndT, gOrT, gNotT, gAnd, gOr, gNot, gIf, PL.gTup, gLst, gIsi, gIsi2, tyN_non, tyN_bl, tyN_int, tyN_str, tyN_tup, tyN_lst, tyN_tl, gSl, oNone, oSome, intv, aNil, aCons, iRange1, iRange2, rng1, rng2, iOf, itv, bLen, bAbs, bInt, bTuple, bList, lenT, pI, pAdd, pIx4, pIx, pDGet, dctAt, dat, look, tgName, forgets, retv, gCall, T.able, T.view, List.getElem?_cons_zero, List.getElem?_cons_succ, List.set_cons_zero, List.set_cons_succ, R.bind_ok, R.bindO_ok, List.length_cons, List.length_nil, dats, trees, lsd, fin, ables_map, views_map', ables_nil, views_nil, ables_cons, views_cons, filter_true', atI_c0, atI_c1, atI_c2, atI_nil, sz_0, sz_1, sz_2, sz_3, sz_4, sz_5, sz_6, sz_7, sz_8, sz_9, sz_10, sz_11, sz_12, sz_13, sz_14, sz_15, pEq_lit, pNe_lit, pIn_2, pIn_3, pIn_4, pNotIn_3, pNotIn_4, pEq_int, pNe_int, okD_lit, okD_int, okD_non, okD_bl, e]
  | .shiftP a b c, k + 3, ob, hk, hd => by
    have e := plain_type_ok k (.shiftP a b c) ob rfl
    rw [Fk_type_of, fnD_fin]
    simp only [List.map_cons, List.map_nil, List.replicate, List.cons_append, List.nil_append]
    simp only [P.d] at e ⊢
    simp [m_type_of, sSeq, sIf, sAsg, sAsgT, sAug, sPar, sFor, sForget, sRet, sRetN, sAppend, sExtend, sNext, sBrk, sCont, sDrop, appv, isLst, gB, bv, gNp, npv, gOp, gUn, gVar, gC, gCB, gFz, fzv, gTru, tru, gAndT, gOrT, gNotT, gAnd, gOr, gNot, gIf, PL.gTup, gLst, gIsi, gIsi2, tyN_non, tyN_bl, tyN_int, tyN_str, tyN_tup, tyN_lst, tyN_tl, gSl, oNone, oSome, intv, aNil, aCons, iRange1, iRange2, rng1, rng2, iOf, itv, bLen, bAbs, bInt, bTuple, bList, lenT, pI, pAdd, pIx4, pIx, pDGet, dctAt, dat, look, tgName, forgets, retv, gCall, T.able, T.view, List.getElem?_cons_zero, List.getElem?_cons_succ, List.set_cons_zero, List.set_cons_succ, R.bind_ok, R.bindO_ok, List.length_cons, List.length_nil, dats, trees, lsd, fin, ables_map, views_map', ables_nil, views_nil, ables_cons, views_cons, filter_true', atI_c0, atI_c1, atI_c2, atI_nil, sz_0, sz_1, sz_2, sz_3, sz_4, sz_5, sz_6, sz_7, sz_8, sz_9, sz_10, sz_11, sz_12, sz_13, sz_14, sz_15, pEq_lit, pNe_lit, pIn_2, pIn_3, pIn_4, pNotIn_3, pNotIn_4, pEq_int, pNe_int, okD_lit, okD_int, okD_non, okD_bl, e]
  | .thn _ _, 0, _, hk, _ => by omega
  | .eth _ _, 0, _, hk, _ => by omega
  | .eth _ _, 1, _, hk, _ => by omega
  | .bth _ _, 0, _, hk, _ => by omega
  | .bth _ _, 1, _, hk, _ => by omega
  | .und _, 0, _, hk, _ => by omega
  | .same _, 0, _, hk, _ => by omega
  | .same _, 1, _, hk, _ => by omega
  | .same _, 2, _, hk, _ => by simp [ph] at hk
  | .drop _, 0, _, hk, _ => by omega
  | .drop _, 1, _, hk, _ => by omega
  | .drop _, 2, _, hk, _ => by simp [ph] at hk
  | .turnS _ _, 0, _, hk, _ => by omega
  | .turnS _ _, 1, _, hk, _ => by omega
  | .turnS _ _, 2, _, hk, _ => by simp [ph] at hk
  | .turnP _ _, 0, _, hk, _ => by omega
  | .turnP _ _, 1, _, hk, _ => by omega
  | .turnP _ _, 2, _, hk, _ => by simp [ph] at hk
  | .spread _ _ _, 0, _, hk, _ => by omega
  | .spread _ _ _, 1, _, hk, _ => by omega
  | .spread _ _ _, 2, _, hk, _ => by simp [ph] at hk
  | .shiftS _ _ _, 0, _, hk, _ => by omega
  | .shiftS _ _ _, 1, _, hk, _ => by omega
  | .shiftS _ _ _, 2, _, hk, _ => by simp [ph] at hk
  | .shiftP _ _ _, 0, _, hk, _ => by omega
  | .shiftP _ _ _, 1, _, hk, _ => by omega
  | .shiftP _ _ _, 2, _, hk, _ => by simp [ph] at hk
end L_k62
set_option Elab.async false
set_option linter.all false
set_option maxRecDepth 100000
set_option autoImplicit false
set_option maxHeartbeats 0
namespace L_k62
open PySem PySem.Spec PyProof.Rows L2 PL
theorem atI_c3 {α : Type} (x y z u : α) (xs : List α) : atI (x :: y :: z :: u :: xs) 3 = some u := atI_at (l := x :: y :: z :: u :: xs) (i := 3) (by simp)
theorem cs_a : cutS (Str.ofString "turn sum") (some 5) none = Str.ofString "sum" := by decide +kernel
theorem cs_b : cutS (Str.ofString "turn pair") (some 5) none = Str.ofString "pair" := by decide +kernel
theorem cs_c : cutS (Str.ofString "shift sum") (some 6) none = Str.ofString "sum" := by decide +kernel
theorem cs_d : cutS (Str.ofString "shift pair") (some 6) none = Str.ofString "pair" := by decide +kernel
theorem law_types_ok : ∀ (p : P) (k : Nat) (ob : List T), ph p < k → pd p ≤ 50 → Fk k 16 [p.d] ob = .ok (.fz (tyD (typ p))) ob
  | .thn p q, k + 1, ob, hk, hd => by
    simp only [ph] at hk
    simp only [pd] at hd
    have e1 := law_types_ok p k ob (by omega) (by omega)
    have e2 := law_types_ok q k ob (by omega) (by omega)
    rw [Fk_law_types, fnD_fin]
    simp only [List.map_cons, List.map_nil, List.replicate, List.cons_append, List.nil_append]
    cases h1 : typ p with
    | none => rw [h1] at e1; simp [m_law_types, P.d, typ, tyD_n, tyD_s, sSeq, sIf, sAsg, sAsgT, sAug, sPar, sFor, sForget, sRet, sRetN, sAppend, sExtend, sNext, sBrk, sCont, sDrop, appv, isLst, gB, bv, gNp, npv, gOp, gUn, gVar, gC, gCB, gFz, fzv, gTru, tru, gAndT, gOrT, gNotT, gAnd, gOr, gNot, gIf, PL.gTup, gLst, gIsi, gIsi2, tyN_non, tyN_bl, tyN_int, tyN_str, tyN_tup, tyN_lst, tyN_tl, gSl, oNone, oSome, intv, aNil, aCons, iRange1, iRange2, rng1, rng2, iOf, itv, bLen, bAbs, bInt, bTuple, bList, lenT, pI, pAdd, pIx4, pIx, pDGet, dctAt, dat, look, tgName, forgets, retv, gCall, T.able, T.view, List.getElem?_cons_zero, List.getElem?_cons_succ, List.set_cons_zero, List.set_cons_succ, R.bind_ok, R.bindO_ok, List.length_cons, List.length_nil, dats, trees, lsd, fin, ables_map, views_map', ables_nil, views_nil, ables_cons, views_cons, filter_true', atI_c0, atI_c1, atI_c2, atI_nil, sz_0, sz_1, sz_2, sz_3, sz_4, sz_5, sz_6, sz_7, sz_8, sz_9, sz_10, sz_11, sz_12, sz_13, sz_14, sz_15, pEq_lit, pNe_lit, pIn_2, pIn_3, pIn_4, pNotIn_3, pNotIn_4, pEq_int, pNe_int, okD_lit, okD_int, okD_non, okD_bl, atI_c3, e1, e2, h1, pIsN, PL.isNon]
    | some x =>
      obtain ⟨a, b⟩ := x
      rw [h1] at e1
      cases h2 : typ q with
      | none => rw [h2] at e2; simp [m_law_types, P.d, typ, tyD_n, tyD_s, sSeq, sIf, sAsg, sAsgT, sAug, sPar, sFor, sForget, sRet, sRetN, sAppend, sExtend, sNext, sBrk, sCont, sDrop, appv, isLst, gB, bv, gNp, npv, gOp, gUn, gVar, gC, gCB, gFz, fzv, gTru, tru, gAndT, gOrT, gNotT, gAnd, gOr, gNot, gIf, PL.gTup, gLst, gIsi, gIsi2, tyN_non, tyN_bl, tyN_int, tyN_str, tyN_tup, tyN_lst, tyN_tl, gSl, oNone, oSome, intv, aNil, aCons, iRange1, iRange2, rng1, rng2, iOf, itv, bLen, bAbs, bInt, bTuple, bList, lenT, pI, pAdd, pIx4, pIx, pDGet, dctAt, dat, look, tgName, forgets, retv, gCall, T.able, T.view, List.getElem?_cons_zero, List.getElem?_cons_succ, List.set_cons_zero, List.set_cons_succ, R.bind_ok, R.bindO_ok, List.length_cons, List.length_nil, dats, trees, lsd, fin, ables_map, views_map', ables_nil, views_nil, ables_cons, views_cons, filter_true', atI_c0, atI_c1, atI_c2, atI_nil, sz_0, sz_1, sz_2, sz_3, sz_4, sz_5, sz_6, sz_7, sz_8, sz_9, sz_10, sz_11, sz_12, sz_13, sz_14, sz_15, pEq_lit, pNe_lit, pIn_2, pIn_3, pIn_4, pNotIn_3, pNotIn_4, pEq_int, pNe_int, okD_lit, okD_int, okD_non, okD_bl, atI_c3, e1, e2, h1, h2, pIsN, PL.isNon]
      | some y =>
        obtain ⟨c, e⟩ := y
        rw [h2] at e2
        have d1 := typ_dep p _ _ h1
        have d2 := typ_dep q _ _ h2
        have eq := fun s => pEq_ty (s := s) (a := b) (b := c) (by omega) (by omega)
        by_cases hbc : b = c
        · subst hbc
          simp [m_law_types, P.d, typ, tyD_n, tyD_s, sSeq, sIf, sAsg, sAsgT, sAug, sPar, sFor, sForget, sRet, sRetN, sAppend, sExtend, sNext, sBrk, sCont, sDrop, appv, isLst, gB, bv, gNp, npv, gOp, gUn, gVar, gC, gCB, gFz, fzv, gTru, tru, gAndT, gOrT, gNotT, gAnd, gOr, gNot, gIf, PL.gTup, gLst, gIsi, gIsi2, tyN_non, tyN_bl, tyN_int, tyN_str, tyN_tup, tyN_lst, tyN_tl, gSl, oNone, oSome, intv, aNil, aCons, iRange1, iRange2, rng1, rng2, iOf, itv, bLen, bAbs, bInt, bTuple, bList, lenT, pI, pAdd, pIx4, pIx, pDGet, dctAt, dat, look, tgName, forgets, retv, gCall, T.able, T.view, List.getElem?_cons_zero, List.getElem?_cons_succ, List.set_cons_zero, List.set_cons_succ, R.bind_ok, R.bindO_ok, List.length_cons, List.length_nil, dats, trees, lsd, fin, ables_map, views_map', ables_nil, views_nil, ables_cons, views_cons, filter_true', atI_c0, atI_c1, atI_c2, atI_nil, sz_0, sz_1, sz_2, sz_3, sz_4, sz_5, sz_6, sz_7, sz_8, sz_9, sz_10, sz_11, sz_12, sz_13, sz_14, sz_15, pEq_lit, pNe_lit, pIn_2, pIn_3, pIn_4, pNotIn_3, pNotIn_4, pEq_int, pNe_int, okD_lit, okD_int, okD_non, okD_bl, atI_c3, e1, e2, h1, h2, pIsN, PL.isNon, eq]
        · simp [m_law_types, P.d, typ, tyD_n, tyD_s, sSeq, sIf, sAsg, sAsgT, sAug, sPar, sFor, sForget, sRet, sRetN, sAppend, sExtend, sNext, sBrk, sCont, sDrop, appv, isLst, gB, bv, gNp, npv, gOp, gUn, gVar, gC, gCB, gFz, fzv, gTru, tru, gAndT, gOrT, gNotT, gAnd, gOr, gNot, gIf, PL.gTup, gLst, gIsi, gIsi2, tyN_non, tyN_bl, tyN_int, tyN_str, tyN_tup, tyN_lst, tyN_tl, gSl, oNone, oSome, intv, aNil, aCons, iRange1, iRange2, rng1, rng2, iOf, itv, bLen, bAbs, bInt, bTuple, bList, lenT, pI, pAdd, pIx4, pIx, pDGet, dctAt, dat, look, tgName, forgets, retv, gCall, T.able, T.view, List.getElem?_cons_zero, List.getElem?_cons_succ, List.set_cons_zero, List.set_cons_succ, R.bind_ok, R.bindO_ok, List.length_cons, List.length_nil, dats, trees, lsd, fin, ables_map, views_map', ables_nil, views_nil, ables_cons, views_cons, filter_true', atI_c0, atI_c1, atI_c2, atI_nil, sz_0, sz_1, sz_2, sz_3, sz_4, sz_5, sz_6, sz_7, sz_8, sz_9, sz_10, sz_11, sz_12, sz_13, sz_14, sz_15, pEq_lit, pNe_lit, pIn_2, pIn_3, pIn_4, pNotIn_3, pNotIn_4, pEq_int, pNe_int, okD_lit, okD_int, okD_non, okD_bl, atI_c3, e1, e2, h1, h2, pIsN, PL.isNon, eq, hbc]
  | .eth p q, k + 1, ob, hk, hd => by
    simp only [ph] at hk
    simp only [pd] at hd
    have e1 := law_types_ok p k ob (by omega) (by omega)
    have e2 := law_types_ok q k ob (by omega) (by omega)
    rw [Fk_law_types, fnD_fin]
    simp only [List.map_cons, List.map_nil, List.replicate, List.cons_append, List.nil_append]
    cases h1 : typ p with
    | none => rw [h1] at e1; simp [m_law_types, P.d, typ, tyD_n, tyD_s, sSeq, sIf, sAsg, sAsgT, sAug, sPar, sFor, sForget, sRet, sRetN, sAppend, sExtend, sNext, sBrk, sCont, sDrop, appv, isLst, gB, bv, gNp, npv, gOp, gUn, gVar, gC, gCB, gFz, fzv, gTru, tru, gAndT, gOrT, gNotT, gAnd, gOr, gNot, gIf, PL.gTup, gLst, gIsi, gIsi2, tyN_non, tyN_bl, tyN_int, tyN_str, tyN_tup, tyN_lst, tyN_tl, gSl, oNone, oSome, intv, aNil, aCons, iRange1, iRange2, rng1, rng2, iOf, itv, bLen, bAbs, bInt, bTuple, bList, lenT, pI, pAdd, pIx4, pIx, pDGet, dctAt, dat, look, tgName, forgets, retv, gCall, T.able, T.view, List.getElem?_cons_zero, List.getElem?_cons_succ, List.set_cons_zero, List.set_cons_succ, R.bind_ok, R.bindO_ok, List.length_cons, List.length_nil, dats, trees, lsd, fin, ables_map, views_map', ables_nil, views_nil, ables_cons, views_cons, filter_true', atI_c0, atI_c1, atI_c2, atI_nil, sz_0, sz_1, sz_2, sz_3, sz_4, sz_5, sz_6, sz_7, sz_8, sz_9, sz_10, sz_11, sz_12, sz_13, sz_14, sz_15, pEq_lit, pNe_lit, pIn_2, pIn_3, pIn_4, pNotIn_3, pNotIn_4, pEq_int, pNe_int, okD_lit, okD_int, okD_non, okD_bl, atI_c3, e1, e2, h1, pIsN, PL.isNon]
    | some x =>
      obtain ⟨a, b⟩ := x
      rw [h1] at e1
      cases h2 : typ q with
      | none => rw [h2] at e2; simp [m_law_types, P.d, typ, tyD_n, tyD_s, sSeq, sIf, sAsg, sAsgT, sAug, sPar, sFor, sForget, sRet, sRetN, sAppend, sExtend, sNext, sBrk, sCont, sDrop, appv, isLst, gB, bv, gNp, npv, gOp, gUn, gVar, gC, gCB, gFz, fzv, gTru, tru, gAndT, gOrT, gNotT, gAnd, gOr, gNot, gIf, PL.gTup, gLst, gIsi, gIsi2, tyN_non, tyN_bl, tyN_int, tyN_str, tyN_tup, tyN_lst, tyN_tl, gSl, oNone, oSome, intv, aNil, aCons, iRange1, iRange2, rng1, rng2, iOf, itv, bLen, bAbs, bInt, bTuple, bList, lenT, pI, pAdd, pIx4, pIx, pDGet, dctAt, dat, look, tgName, forgets, retv, gCall, T.able, T.view, List.getElem?_cons_zero, List.getElem?_cons_succ, List.set_cons_zero, List.set_cons_succ, R.bind_ok, R.bindO_ok, List.length_cons, List.length_nil, dats, trees, lsd, fin, ables_map, views_map', ables_nil, views_nil, ables_cons, views_cons, filter_true', atI_c0, atI_c1, atI_c2, atI_nil, sz_0, sz_1, sz_2, sz_3, sz_4, sz_5, sz_6, sz_7, sz_8, sz_9, sz_10, sz_11, sz_12, sz_13, sz_14, sz_15, pEq_lit, pNe_lit, pIn_2, pIn_3, pIn_4, pNotIn_3, pNotIn_4, pEq_int, pNe_int, okD_lit, okD_int, okD_non, okD_bl, atI_c3, e1, e2, h1, h2, pIsN, PL.isNon]
      | some y =>
        obtain ⟨c, e⟩ := y
        rw [h2] at e2
        simp [m_law_types, P.d, typ, tyD_n, tyD_s, Ty.d, sSeq, sIf, sAsg, sAsgT, sAug, sPar, sFor, sForget, sRet, sRetN, sAppend, sExtend, sNext, sBrk, sCont, sDrop, appv, isLst, gB, bv, gNp, npv, gOp, gUn, gVar, gC, gCB, gFz, fzv, gTru, tru, gAndT, gOrT, gNotT, gAnd, gOr, gNot, gIf, PL.gTup, gLst, gIsi, gIsi2, tyN_non, tyN_bl, tyN_int, tyN_str, tyN_tup, tyN_lst, tyN_tl, gSl, oNone, oSome, intv, aNil, aCons, iRange1, iRange2, rng1, rng2, iOf, itv, bLen, bAbs, bInt, bTuple, bList, lenT, pI, pAdd, pIx4, pIx, pDGet, dctAt, dat, look, tgName, forgets, retv, gCall, T.able, T.view, List.getElem?_cons_zero, List.getElem?_cons_succ, List.set_cons_zero, List.set_cons_succ, R.bind_ok, R.bindO_ok, List.length_cons, List.length_nil, dats, trees, lsd, fin, ables_map, views_map', ables_nil, views_nil, ables_cons, views_cons, filter_true', atI_c0, atI_c1, atI_c2, atI_nil, sz_0, sz_1, sz_2, sz_3, sz_4, sz_5, sz_6, sz_7, sz_8, sz_9, sz_10, sz_11, sz_12, sz_13, sz_14, sz_15, pEq_lit, pNe_lit, pIn_2, pIn_3, pIn_4, pNotIn_3, pNotIn_4, pEq_int, pNe_int, okD_lit, okD_int, okD_non, okD_bl, atI_c3, e1, e2, h1, h2, pIsN, PL.isNon]
  | .bth p q, k + 1, ob, hk, hd => by
    simp only [ph] at hk
    simp only [pd] at hd
    have e1 := law_types_ok p k ob (by omega) (by omega)
    have e2 := law_types_ok q k ob (by omega) (by omega)
    rw [Fk_law_types, fnD_fin]
    simp only [List.map_cons, List.map_nil, List.replicate, List.cons_append, List.nil_append]
    cases h1 : typ p with
    | none => rw [h1] at e1; simp [m_law_types, P.d, typ, tyD_n, tyD_s, sSeq, sIf, sAsg, sAsgT, sAug, sPar, sFor, sForget, sRet, sRetN, sAppend, sExtend, sNext, sBrk, sCont, sDrop, appv, isLst, gB, bv, gNp, npv, gOp, gUn, gVar, gC, gCB, gFz, fzv, gTru, tru, gAndT, gOrT, gNotT, gAnd, gOr, gNot, gIf, PL.gTup, gLst, gIsi, gIsi2, tyN_non, tyN_bl, tyN_int, tyN_str, tyN_tup, tyN_lst, tyN_tl, gSl, oNone, oSome, intv, aNil, aCons, iRange1, iRange2, rng1, rng2, iOf, itv, bLen, bAbs, bInt, bTuple, bList, lenT, pI, pAdd, pIx4, pIx, pDGet, dctAt, dat, look, tgName, forgets, retv, gCall, T.able, T.view, List.getElem?_cons_zero, List.getElem?_cons_succ, List.set_cons_zero, List.set_cons_succ, R.bind_ok, R.bindO_ok, List.length_cons, List.length_nil, dats, trees, lsd, fin, ables_map, views_map', ables_nil, views_nil, ables_cons, views_cons, filter_true', atI_c0, atI_c1, atI_c2, atI_nil, sz_0, sz_1, sz_2, sz_3, sz_4, sz_5, sz_6, sz_7, sz_8, sz_9, sz_10, sz_11, sz_12, sz_13, sz_14, sz_15, pEq_lit, pNe_lit, pIn_2, pIn_3, pIn_4, pNotIn_3, pNotIn_4, pEq_int, pNe_int, okD_lit, okD_int, okD_non, okD_bl, atI_c3, e1, e2, h1, pIsN, PL.isNon]
    | some x =>
      obtain ⟨a, b⟩ := x
      rw [h1] at e1
      cases h2 : typ q with
      | none => rw [h2] at e2; simp [m_law_types, P.d, typ, tyD_n, tyD_s, sSeq, sIf, sAsg, sAsgT, sAug, sPar, sFor, sForget, sRet, sRetN, sAppend, sExtend, sNext, sBrk, sCont, sDrop, appv, isLst, gB, bv, gNp, npv, gOp, gUn, gVar, gC, gCB, gFz, fzv, gTru, tru, gAndT, gOrT, gNotT, gAnd, gOr, gNot, gIf, PL.gTup, gLst, gIsi, gIsi2, tyN_non, tyN_bl, tyN_int, tyN_str, tyN_tup, tyN_lst, tyN_tl, gSl, oNone, oSome, intv, aNil, aCons, iRange1, iRange2, rng1, rng2, iOf, itv, bLen, bAbs, bInt, bTuple, bList, lenT, pI, pAdd, pIx4, pIx, pDGet, dctAt, dat, look, tgName, forgets, retv, gCall, T.able, T.view, List.getElem?_cons_zero, List.getElem?_cons_succ, List.set_cons_zero, List.set_cons_succ, R.bind_ok, R.bindO_ok, List.length_cons, List.length_nil, dats, trees, lsd, fin, ables_map, views_map', ables_nil, views_nil, ables_cons, views_cons, filter_true', atI_c0, atI_c1, atI_c2, atI_nil, sz_0, sz_1, sz_2, sz_3, sz_4, sz_5, sz_6, sz_7, sz_8, sz_9, sz_10, sz_11, sz_12, sz_13, sz_14, sz_15, pEq_lit, pNe_lit, pIn_2, pIn_3, pIn_4, pNotIn_3, pNotIn_4, pEq_int, pNe_int, okD_lit, okD_int, okD_non, okD_bl, atI_c3, e1, e2, h1, h2, pIsN, PL.isNon]
      | some y =>
        obtain ⟨c, e⟩ := y
        rw [h2] at e2
        simp [m_law_types, P.d, typ, tyD_n, tyD_s, Ty.d, sSeq, sIf, sAsg, sAsgT, sAug, sPar, sFor, sForget, sRet, sRetN, sAppend, sExtend, sNext, sBrk, sCont, sDrop, appv, isLst, gB, bv, gNp, npv, gOp, gUn, gVar, gC, gCB, gFz, fzv, gTru, tru, gAndT, gOrT, gNotT, gAnd, gOr, gNot, gIf, PL.gTup, gLst, gIsi, gIsi2, tyN_non, tyN_bl, tyN_int, tyN_str, tyN_tup, tyN_lst, tyN_tl, gSl, oNone, oSome, intv, aNil, aCons, iRange1, iRange2, rng1, rng2, iOf, itv, bLen, bAbs, bInt, bTuple, bList, lenT, pI, pAdd, pIx4, pIx, pDGet, dctAt, dat, look, tgName, forgets, retv, gCall, T.able, T.view, List.getElem?_cons_zero, List.getElem?_cons_succ, List.set_cons_zero, List.set_cons_succ, R.bind_ok, R.bindO_ok, List.length_cons, List.length_nil, dats, trees, lsd, fin, ables_map, views_map', ables_nil, views_nil, ables_cons, views_cons, filter_true', atI_c0, atI_c1, atI_c2, atI_nil, sz_0, sz_1, sz_2, sz_3, sz_4, sz_5, sz_6, sz_7, sz_8, sz_9, sz_10, sz_11, sz_12, sz_13, sz_14, sz_15, pEq_lit, pNe_lit, pIn_2, pIn_3, pIn_4, pNotIn_3, pNotIn_4, pEq_int, pNe_int, okD_lit, okD_int, okD_non, okD_bl, atI_c3, e1, e2, h1, h2, pIsN, PL.isNon]
  | .und p, k + 1, ob, hk, hd => by
    simp only [ph] at hk
    simp only [pd] at hd
    have e1 := law_types_ok p k ob (by omega) (by omega)
    rw [Fk_law_types, fnD_fin]
    simp only [List.map_cons, List.map_nil, List.replicate, List.cons_append, List.nil_append]
    cases h1 : typ p with
    | none => rw [h1] at e1; simp [m_law_types, P.d, typ, tyD_n, tyD_s, sSeq, sIf, sAsg, sAsgT, sAug, sPar, sFor, sForget, sRet, sRetN, sAppend, sExtend, sNext, sBrk, sCont, sDrop, appv, isLst, gB, bv, gNp, npv, gOp, gUn, gVar, gC, gCB, gFz, fzv, gTru, tru, gAndT, gOrT, gNotT, gAnd, gOr, gNot, gIf, PL.gTup, gLst, gIsi, gIsi2, tyN_non, tyN_bl, tyN_int, tyN_str, tyN_tup, tyN_lst, tyN_tl, gSl, oNone, oSome, intv, aNil, aCons, iRange1, iRange2, rng1, rng2, iOf, itv, bLen, bAbs, bInt, bTuple, bList, lenT, pI, pAdd, pIx4, pIx, pDGet, dctAt, dat, look, tgName, forgets, retv, gCall, T.able, T.view, List.getElem?_cons_zero, List.getElem?_cons_succ, List.set_cons_zero, List.set_cons_succ, R.bind_ok, R.bindO_ok, List.length_cons, List.length_nil, dats, trees, lsd, fin, ables_map, views_map', ables_nil, views_nil, ables_cons, views_cons, filter_true', atI_c0, atI_c1, atI_c2, atI_nil, sz_0, sz_1, sz_2, sz_3, sz_4, sz_5, sz_6, sz_7, sz_8, sz_9, sz_10, sz_11, sz_12, sz_13, sz_14, sz_15, pEq_lit, pNe_lit, pIn_2, pIn_3, pIn_4, pNotIn_3, pNotIn_4, pEq_int, pNe_int, okD_lit, okD_int, okD_non, okD_bl, atI_c3, e1, h1, pNotN, PL.isNon]
    | some x =>
      obtain ⟨a, b⟩ := x
      rw [h1] at e1
      simp [m_law_types, P.d, typ, tyD_n, tyD_s, sSeq, sIf, sAsg, sAsgT, sAug, sPar, sFor, sForget, sRet, sRetN, sAppend, sExtend, sNext, sBrk, sCont, sDrop, appv, isLst, gB, bv, gNp, npv, gOp, gUn, gVar, gC, gCB, gFz, fzv, gTru, tru, gAndT, gOrT, gNotT, gAnd, gOr, gNot, gIf, PL.gTup, gLst, gIsi, gIsi2, tyN_non, tyN_bl, tyN_int, tyN_str, tyN_tup, tyN_lst, tyN_tl, gSl, oNone, oSome, intv, aNil, aCons, iRange1, iRange2, rng1, rng2, iOf, itv, bLen, bAbs, bInt, bTuple, bList, lenT, pI, pAdd, pIx4, pIx, pDGet, dctAt, dat, look, tgName, forgets, retv, gCall, T.able, T.view, List.getElem?_cons_zero, List.getElem?_cons_succ, List.set_cons_zero, List.set_cons_succ, R.bind_ok, R.bindO_ok, List.length_cons, List.length_nil, dats, trees, lsd, fin, ables_map, views_map', ables_nil, views_nil, ables_cons, views_cons, filter_true', atI_c0, atI_c1, atI_c2, atI_nil, sz_0, sz_1, sz_2, sz_3, sz_4, sz_5, sz_6, sz_7, sz_8, sz_9, sz_10, sz_11, sz_12, sz_13, sz_14, sz_15, pEq_lit, pNe_lit, pIn_2, pIn_3, pIn_4, pNotIn_3, pNotIn_4, pEq_int, pNe_int, okD_lit, okD_int, okD_non, okD_bl, atI_c3, e1, h1, pNotN, PL.isNon, gRev, revv]
  | .same a, k + 1, ob, hk, hd => by
    rw [Fk_law_types, fnD_fin]
    simp only [List.map_cons, List.map_nil, List.replicate, List.cons_append, List.nil_append]
    simp [m_law_types, P.d, typ, tyD_n, tyD_s, Ty.d, sSeq, sIf, sAsg, sAsgT, sAug, sPar, sFor, sForget, sRet, sRetN, sAppend, sExtend, sNext, sBrk, sCont, sDrop, appv, isLst, gB, bv, gNp, npv, gOp, gUn, gVar, gC, gCB, gFz, fzv, gTru, tru, gAndT, gOrT, gNotT, gAnd, gOr, gNot, gIf, PL.gTup, gLst, gIsi, gIsi2, tyN_non, tyN_bl, tyN_int, tyN_str, tyN_tup, tyN_lst, tyN_tl, gSl, oNone, oSome, intv, aNil, aCons, iRange1, iRange2, rng1, rng2, iOf, itv, bLen, bAbs, bInt, bTuple, bList, lenT, pI, pAdd, pIx4, pIx, pDGet, dctAt, dat, look, tgName, forgets, retv, gCall, T.able, T.view, List.getElem?_cons_zero, List.getElem?_cons_succ, List.set_cons_zero, List.set_cons_succ, R.bind_ok, R.bindO_ok, List.length_cons, List.length_nil, dats, trees, lsd, fin, ables_map, views_map', ables_nil, views_nil, ables_cons, views_cons, filter_true', atI_c0, atI_c1, atI_c2, atI_nil, sz_0, sz_1, sz_2, sz_3, sz_4, sz_5, sz_6, sz_7, sz_8, sz_9, sz_10, sz_11, sz_12, sz_13, sz_14, sz_15, pEq_lit, pNe_lit, pIn_2, pIn_3, pIn_4, pNotIn_3, pNotIn_4, pEq_int, pNe_int, okD_lit, okD_int, okD_non, okD_bl, atI_c3, pSl, cs_a, cs_b, cs_c, cs_d]
  | .same _, 0, _, hk, _ => by omega
  | .drop a, k + 1, ob, hk, hd => by
    rw [Fk_law_types, fnD_fin]
    simp only [List.map_cons, List.map_nil, List.replicate, List.cons_append, List.nil_append]
    simp [m_law_types, P.d, typ, tyD_n, tyD_s, Ty.d, sSeq, sIf, sAsg, sAsgT, sAug, sPar, sFor, sForget, sRet, sRetN, sAppend, sExtend, sNext, sBrk, sCont, sDrop, appv, isLst, gB, bv, gNp, npv, gOp, gUn, gVar, gC, gCB, gFz, fzv, gTru, tru, gAndT, gOrT, gNotT, gAnd, gOr, gNot, gIf, PL.gTup, gLst, gIsi, gIsi2, tyN_non, tyN_bl, tyN_int, tyN_str, tyN_tup, tyN_lst, tyN_tl, gSl, oNone, oSome, intv, aNil, aCons, iRange1, iRange2, rng1, rng2, iOf, itv, bLen, bAbs, bInt, bTuple, bList, lenT, pI, pAdd, pIx4, pIx, pDGet, dctAt, dat, look, tgName, forgets, retv, gCall, T.able, T.view, List.getElem?_cons_zero, List.getElem?_cons_succ, List.set_cons_zero, List.set_cons_succ, R.bind_ok, R.bindO_ok, List.length_cons, List.length_nil, dats, trees, lsd, fin, ables_map, views_map', ables_nil, views_nil, ables_cons, views_cons, filter_true', atI_c0, atI_c1, atI_c2, atI_nil, sz_0, sz_1, sz_2, sz_3, sz_4, sz_5, sz_6, sz_7, sz_8, sz_9, sz_10, sz_11, sz_12, sz_13, sz_14, sz_15, pEq_lit, pNe_lit, pIn_2, pIn_3, pIn_4, pNotIn_3, pNotIn_4, pEq_int, pNe_int, okD_lit, okD_int, okD_non, okD_bl, atI_c3, pSl, cs_a, cs_b, cs_c, cs_d]
  | .drop _, 0, _, hk, _ => by omega
  | .turnS a b, k + 1, ob, hk, hd => by
    rw [Fk_law_types, fnD_fin]
    simp only [List.map_cons, List.map_nil, List.replicate, List.cons_append, List.nil_append]
    simp [m_law_types, P.d, typ, tyD_n, tyD_s, Ty.d, sSeq, sIf, sAsg, sAsgT, sAug, sPar, sFor, sForget, sRet, sRetN, sAppend, sExtend, sNext, sBrk, sCont, sDrop, appv, isLst, gB, bv, gNp, npv, gOp, gUn, gVar, gC, gCB, gFz, fzv, gTru, tru, gAndT, gOrT, gNotT, gAnd, gOr, gNot, gIf, PL.gTup, gLst, gIsi, gIsi2, tyN_non, tyN_bl, tyN_int, tyN_str, tyN_tup, tyN_lst, tyN_tl, gSl, oNone, oSome, intv, aNil, aCons, iRange1, iRange2, rng1, rng2, iOf, itv, bLen, bAbs, bInt, bTuple, bList, lenT, pI, pAdd, pIx4, pIx, pDGet, dctAt, dat, look, tgName, forgets, retv, gCall, T.able, T.view, List.getElem?_cons_zero, List.getElem?_cons_succ, List.set_cons_zero, List.set_cons_succ, R.bind_ok, R.bindO_ok, List.length_cons, List.length_nil, dats, trees, lsd, fin, ables_map, views_map', ables_nil, views_nil, ables_cons, views_cons, filter_true', atI_c0, atI_c1, atI_c2, atI_nil, sz_0, sz_1, sz_2, sz_3, sz_4, sz_5, sz_6, sz_7, sz_8, sz_9, sz_10, sz_11, sz_12, sz_13, sz_14, sz_15, pEq_lit, pNe_lit, pIn_2, pIn_3, pIn_4, pNotIn_3, pNotIn_4, pEq_int, pNe_int, okD_lit, okD_int, okD_non, okD_bl, atI_c3, pSl, cs_a, cs_b, cs_c, cs_d]
  | .turnS _ _, 0, _, hk, _ => by omega
  | .turnP a b, k + 1, ob, hk, hd => by
    rw [Fk_law_types, fnD_fin]
    simp only [List.map_cons, List.map_nil, List.replicate, List.cons_append, List.nil_append]
    simp [m_law_types, P.d, typ, tyD_n, tyD_s, Ty.d, sSeq, sIf, sAsg, sAsgT, sAug, sPar, sFor, sForget, sRet, sRetN, sAppend, sExtend, sNext, sBrk, sCont, sDrop, appv, isLst, gB, bv, gNp, npv, gOp, gUn, gVar, gC, gCB, gFz, fzv, gTru, tru, gAndT, gOrT, gNotT, gAnd, gOr, gNot, gIf, PL.gTup, gLst, gIsi, gIsi2, tyN_non, tyN_bl, tyN_int, tyN_str, tyN_tup, tyN_lst, tyN_tl, gSl, oNone, oSome, intv, aNil, aCons, iRange1, iRange2, rng1, rng2, iOf, itv, bLen, bAbs, bInt, bTuple, bList, lenT, pI, pAdd, pIx4, pIx, pDGet, dctAt, dat, look, tgName, forgets, retv, gCall, T.able, T.view, List.getElem?_cons_zero, List.getElem?_cons_succ, List.set_cons_zero, List.set_cons_succ, R.bind_ok, R.bindO_ok, List.length_cons, List.length_nil, dats, trees, lsd, fin, ables_map, views_map', ables_nil, views_nil, ables_cons, views_cons, filter_true', atI_c0, atI_c1, atI_c2, atI_nil, sz_0, sz_1, sz_2, sz_3, sz_4, sz_5, sz_6, sz_7, sz_8, sz_9, sz_10, sz_11, sz_12, sz_13, sz_14, sz_15, pEq_lit, pNe_lit, pIn_2, pIn_3, pIn_4, pNotIn_3, pNotIn_4, pEq_int, pNe_int, okD_lit, okD_int, okD_non, okD_bl, atI_c3, pSl, cs_a, cs_b, cs_c, cs_d]
  | .turnP _ _, 0, _, hk, _ => by omega
  | .spread a b c, k + 1, ob, hk, hd => by
    rw [Fk_law_types, fnD_fin]
    simp only [List.map_cons, List.map_nil, List.replicate, List.cons_append, List.nil_append]
    simp [m_law_types, P.d, typ, tyD_n, tyD_s, Ty.d, sSeq, sIf, sAsg, sAsgT, sAug, sPar, sFor, sForget, sRet, sRetN, sAppend, sExtend, sNext, sBrk, sCont, sDrop, appv, isLst, gB, bv, gNp, npv, gOp, gUn, gVar, gC, gCB, gFz, fzv, gTru, tru, gAndT, gOrT, gNotT, gAnd, gOr, gNot, gIf, PL.gTup, gLst, gIsi, gIsi2, tyN_non, tyN_bl, tyN_int, tyN_str, tyN_tup, tyN_lst, tyN_tl, gSl, oNone, oSome, intv, aNil, aCons, iRange1, iRange2, rng1, rng2, iOf, itv, bLen, bAbs, bInt, bTuple, bList, lenT, pI, pAdd, pIx4, pIx, pDGet, dctAt, dat, look, tgName, forgets, retv, gCall, T.able, T.view, List.getElem?_cons_zero, List.getElem?_cons_succ, List.set_cons_zero, List.set_cons_succ, R.bind_ok, R.bindO_ok, List.length_cons, List.length_nil, dats, trees, lsd, fin, ables_map, views_map', ables_nil, views_nil, ables_cons, views_cons, filter_true', atI_c0, atI_c1, atI_c2, atI_nil, sz_0, sz_1, sz_2, sz_3, sz_4, sz_5, sz_6, sz_7, sz_8, sz_9, sz_10, sz_11, sz_12, sz_13, sz_14, sz_15, pEq_lit, pNe_lit, pIn_2, pIn_3, pIn_4, pNotIn_3, pNotIn_4, pEq_int, pNe_int, okD_lit, okD_int, okD_non, okD_bl, atI_c3, pSl, cs_a, cs_b, cs_c, cs_d]
  | .spread _ _ _, 0, _, hk, _ => by omega
  | .shiftS a b c, k + 1, ob, hk, hd => by
    rw [Fk_law_types, fnD_fin]
    simp only [List.map_cons, List.map_nil, List.replicate, List.cons_append, List.nil_append]
    simp [m_law_types, P.d, typ, tyD_n, tyD_s, Ty.d, sSeq, sIf, sAsg, sAsgT, sAug, sPar, sFor, sForget, sRet, sRetN, sAppend, sExtend, sNext, sBrk, sCont, sDrop, appv, isLst, gB, bv, gNp, npv, gOp, gUn, gVar, gC, gCB, gFz, fzv, gTru, tru, gAndT, gOrT, gNotT, gAnd, gOr, gNot, gIf, PL.gTup, gLst, gIsi, gIsi2, tyN_non, tyN_bl, tyN_int, tyN_str, tyN_tup, tyN_lst, tyN_tl, gSl, oNone, oSome, intv, aNil, aCons, iRange1, iRange2, rng1, rng2, iOf, itv, bLen, bAbs, bInt, bTuple, bList, lenT, pI, pAdd, pIx4, pIx, pDGet, dctAt, dat, look, tgName, forgets, retv, gCall, T.able, T.view, List.getElem?_cons_zero, List.getElem?_cons_succ, List.set_cons_zero, List.set_cons_succ, R.bind_ok, R.bindO_ok, List.length_cons, List.length_nil, dats, trees, lsd, fin, ables_map, views_map', ables_nil, views_nil, ables_cons, views_cons, filter_true', atI_c0, atI_c1, atI_c2, atI_nil, sz_0, sz_1, sz_2, sz_3, sz_4, sz_5, sz_6, sz_7, sz_8, sz_9, sz_10, sz_11, sz_12, sz_13, sz_14, sz_15, pEq_lit, pNe_lit, pIn_2, pIn_3, pIn_4, pNotIn_3, pNotIn_4, pEq_int, pNe_int, okD_lit, okD_int, okD_non, okD_bl, atI_c3, pSl, cs_a, cs_b, cs_c, cs_d]
  | .shiftS _ _ _, 0, _, hk, _ => by omega
  | .shiftP a b c, k + 1, ob, hk, hd => by
    rw [Fk_law_types, fnD_fin]
    simp only [List.map_cons, List.map_nil, List.replicate, List.cons_append, List.nil_append]
    simp [m_law_types, P.d, typ, tyD_n, tyD_s, Ty.d, sSeq, sIf, sAsg, sAsgT, sAug, sPar, sFor, sForget, sRet, sRetN, sAppend, sExtend, sNext, sBrk, sCont, sDrop, appv, isLst, gB, bv, gNp, npv, gOp, gUn, gVar, gC, gCB, gFz, fzv, gTru, tru, gAndT, gOrT, gNotT, gAnd, gOr, gNot, gIf, PL.gTup, gLst, gIsi, gIsi2, tyN_non, tyN_bl, tyN_int, tyN_str, tyN_tup, tyN_lst, tyN_tl, gSl, oNone, oSome, intv, aNil, aCons, iRange1, iRange2, rng1, rng2, iOf, itv, bLen, bAbs, bInt, bTuple, bList, lenT, pI, pAdd, pIx4, pIx, pDGet, dctAt, dat, look, tgName, forgets, retv, gCall, T.able, T.view, List.getElem?_cons_zero, List.getElem?_cons_succ, List.set_cons_zero, List.set_cons_succ, R.bind_ok, R.bindO_ok, List.length_cons, List.length_nil, dats, trees, lsd, fin, ables_map, views_map', ables_nil, views_nil, ables_cons, views_cons, filter_true', atI_c0, atI_c1, atI_c2, atI_nil, sz_0, sz_1, sz_2, sz_3, sz_4, sz_5, sz_6, sz_7, sz_8, sz_9, sz_10, sz_11, sz_12, sz_13, sz_14, sz_15, pEq_lit, pNe_lit, pIn_2, pIn_3, pIn_4, pNotIn_3, pNotIn_4, pEq_int, pNe_int, okD_lit, okD_int, okD_non, okD_bl, atI_c3, pSl, cs_a, cs_b, cs_c, cs_d]
  | .shiftP _ _ _, 0, _, hk, _ => by omega
  | .thn _ _, 0, _, hk, _ => by omega
  | .eth _ _, 0, _, hk, _ => by omega
  | .bth _ _, 0, _, hk, _ => by omega
  | .und _, 0, _, hk, _ => by omega
theorem undone_ok : ∀ (p : P) (k : Nat) (ob : List T), ph p < k → Fk k 7 [p.d] ob = .ok (.fz (und' p).d) ob ∧ Fk k 8 [p.d] ob = .ok (.fz (wu p).d) ob
  | .thn p q, k + 1, ob, hk => by
    simp only [ph] at hk
    obtain ⟨e1, e2⟩ := undone_ok p k ob (by omega)
    obtain ⟨e3, e4⟩ := undone_ok q k ob (by omega)
    rw [Fk_undone, Fk_without_undo, fnD_fin, fnD_fin]
    simp only [List.map_cons, List.map_nil, List.replicate, List.cons_append, List.nil_append]
    constructor
    · simp [m_undone, P.d, und', sSeq, sIf, sAsg, sAsgT, sAug, sPar, sFor, sForget, sRet, sRetN, sAppend, sExtend, sNext, sBrk, sCont, sDrop, appv, isLst, gB, bv, gNp, npv, gOp, gUn, gVar, gC, gCB, gFz, fzv, gTru, tru, gAndT, gOrT, gNotT, gAnd, gOr, gNot, gIf, PL.gTup, gLst, gIsi, gIsi2, tyN_non, tyN_bl, tyN_int, tyN_str, tyN_tup, tyN_lst, tyN_tl, gSl, oNone, oSome, intv, aNil, aCons, iRange1, iRange2, rng1, rng2, iOf, itv, bLen, bAbs, bInt, bTuple, bList, lenT, pI, pAdd, pIx4, pIx, pDGet, dctAt, dat, look, tgName, forgets, retv, gCall, T.able, T.view, List.getElem?_cons_zero, List.getElem?_cons_succ, List.set_cons_zero, List.set_cons_succ, R.bind_ok, R.bindO_ok, List.length_cons, List.length_nil, dats, trees, lsd, fin, ables_map, views_map', ables_nil, views_nil, ables_cons, views_cons, filter_true', atI_c0, atI_c1, atI_c2, atI_nil, sz_0, sz_1, sz_2, sz_3, sz_4, sz_5, sz_6, sz_7, sz_8, sz_9, sz_10, sz_11, sz_12, sz_13, sz_14, sz_15, pEq_lit, pNe_lit, pIn_2, pIn_3, pIn_4, pNotIn_3, pNotIn_4, pEq_int, pNe_int, okD_lit, okD_int, okD_non, okD_bl, atI_c3, e1, e3]
    · simp [m_without_undo, P.d, wu, sSeq, sIf, sAsg, sAsgT, sAug, sPar, sFor, sForget, sRet, sRetN, sAppend, sExtend, sNext, sBrk, sCont, sDrop, appv, isLst, gB, bv, gNp, npv, gOp, gUn, gVar, gC, gCB, gFz, fzv, gTru, tru, gAndT, gOrT, gNotT, gAnd, gOr, gNot, gIf, PL.gTup, gLst, gIsi, gIsi2, tyN_non, tyN_bl, tyN_int, tyN_str, tyN_tup, tyN_lst, tyN_tl, gSl, oNone, oSome, intv, aNil, aCons, iRange1, iRange2, rng1, rng2, iOf, itv, bLen, bAbs, bInt, bTuple, bList, lenT, pI, pAdd, pIx4, pIx, pDGet, dctAt, dat, look, tgName, forgets, retv, gCall, T.able, T.view, List.getElem?_cons_zero, List.getElem?_cons_succ, List.set_cons_zero, List.set_cons_succ, R.bind_ok, R.bindO_ok, List.length_cons, List.length_nil, dats, trees, lsd, fin, ables_map, views_map', ables_nil, views_nil, ables_cons, views_cons, filter_true', atI_c0, atI_c1, atI_c2, atI_nil, sz_0, sz_1, sz_2, sz_3, sz_4, sz_5, sz_6, sz_7, sz_8, sz_9, sz_10, sz_11, sz_12, sz_13, sz_14, sz_15, pEq_lit, pNe_lit, pIn_2, pIn_3, pIn_4, pNotIn_3, pNotIn_4, pEq_int, pNe_int, okD_lit, okD_int, okD_non, okD_bl, atI_c3, e2, e4]
  | .thn _ _, 0, _, hk => by omega
  | .eth p q, k + 1, ob, hk => by
    simp only [ph] at hk
    obtain ⟨e1, e2⟩ := undone_ok p k ob (by omega)
    obtain ⟨e3, e4⟩ := undone_ok q k ob (by omega)
    rw [Fk_undone, Fk_without_undo, fnD_fin, fnD_fin]
    simp only [List.map_cons, List.map_nil, List.replicate, List.cons_append, List.nil_append]
    constructor
    · simp [m_undone, P.d, und', sSeq, sIf, sAsg, sAsgT, sAug, sPar, sFor, sForget, sRet, sRetN, sAppend, sExtend, sNext, sBrk, sCont, sDrop, appv, isLst, gB, bv, gNp, npv, gOp, gUn, gVar, gC, gCB, gFz, fzv, gTru, tru, gAndT, gOrT, gNotT, gAnd, gOr, gNot, gIf, PL.gTup, gLst, gIsi, gIsi2, tyN_non, tyN_bl, tyN_int, tyN_str, tyN_tup, tyN_lst, tyN_tl, gSl, oNone, oSome, intv, aNil, aCons, iRange1, iRange2, rng1, rng2, iOf, itv, bLen, bAbs, bInt, bTuple, bList, lenT, pI, pAdd, pIx4, pIx, pDGet, dctAt, dat, look, tgName, forgets, retv, gCall, T.able, T.view, List.getElem?_cons_zero, List.getElem?_cons_succ, List.set_cons_zero, List.set_cons_succ, R.bind_ok, R.bindO_ok, List.length_cons, List.length_nil, dats, trees, lsd, fin, ables_map, views_map', ables_nil, views_nil, ables_cons, views_cons, filter_true', atI_c0, atI_c1, atI_c2, atI_nil, sz_0, sz_1, sz_2, sz_3, sz_4, sz_5, sz_6, sz_7, sz_8, sz_9, sz_10, sz_11, sz_12, sz_13, sz_14, sz_15, pEq_lit, pNe_lit, pIn_2, pIn_3, pIn_4, pNotIn_3, pNotIn_4, pEq_int, pNe_int, okD_lit, okD_int, okD_non, okD_bl, atI_c3, e1, e3]
    · simp [m_without_undo, P.d, wu, sSeq, sIf, sAsg, sAsgT, sAug, sPar, sFor, sForget, sRet, sRetN, sAppend, sExtend, sNext, sBrk, sCont, sDrop, appv, isLst, gB, bv, gNp, npv, gOp, gUn, gVar, gC, gCB, gFz, fzv, gTru, tru, gAndT, gOrT, gNotT, gAnd, gOr, gNot, gIf, PL.gTup, gLst, gIsi, gIsi2, tyN_non, tyN_bl, tyN_int, tyN_str, tyN_tup, tyN_lst, tyN_tl, gSl, oNone, oSome, intv, aNil, aCons, iRange1, iRange2, rng1, rng2, iOf, itv, bLen, bAbs, bInt, bTuple, bList, lenT, pI, pAdd, pIx4, pIx, pDGet, dctAt, dat, look, tgName, forgets, retv, gCall, T.able, T.view, List.getElem?_cons_zero, List.getElem?_cons_succ, List.set_cons_zero, List.set_cons_succ, R.bind_ok, R.bindO_ok, List.length_cons, List.length_nil, dats, trees, lsd, fin, ables_map, views_map', ables_nil, views_nil, ables_cons, views_cons, filter_true', atI_c0, atI_c1, atI_c2, atI_nil, sz_0, sz_1, sz_2, sz_3, sz_4, sz_5, sz_6, sz_7, sz_8, sz_9, sz_10, sz_11, sz_12, sz_13, sz_14, sz_15, pEq_lit, pNe_lit, pIn_2, pIn_3, pIn_4, pNotIn_3, pNotIn_4, pEq_int, pNe_int, okD_lit, okD_int, okD_non, okD_bl, atI_c3, e2, e4]
  | .eth _ _, 0, _, hk => by omega
  | .bth p q, k + 1, ob, hk => by
    simp only [ph] at hk
    obtain ⟨e1, e2⟩ := undone_ok p k ob (by omega)
    obtain ⟨e3, e4⟩ := undone_ok q k ob (by omega)
    rw [Fk_undone, Fk_without_undo, fnD_fin, fnD_fin]
    simp only [List.map_cons, List.map_nil, List.replicate, List.cons_append, List.nil_append]
    constructor
    · simp [m_undone, P.d, und', sSeq, sIf, sAsg, sAsgT, sAug, sPar, sFor, sForget, sRet, sRetN, sAppend, sExtend, sNext, sBrk, sCont, sDrop, appv, isLst, gB, bv, gNp, npv, gOp, gUn, gVar, gC, gCB, gFz, fzv, gTru, tru, gAndT, gOrT, gNotT, gAnd, gOr, gNot, gIf, PL.gTup, gLst, gIsi, gIsi2, tyN_non, tyN_bl, tyN_int, tyN_str, tyN_tup, tyN_lst, tyN_tl, gSl, oNone, oSome, intv, aNil, aCons, iRange1, iRange2, rng1, rng2, iOf, itv, bLen, bAbs, bInt, bTuple, bList, lenT, pI, pAdd, pIx4, pIx, pDGet, dctAt, dat, look, tgName, forgets, retv, gCall, T.able, T.view, List.getElem?_cons_zero, List.getElem?_cons_succ, List.set_cons_zero, List.set_cons_succ, R.bind_ok, R.bindO_ok, List.length_cons, List.length_nil, dats, trees, lsd, fin, ables_map, views_map', ables_nil, views_nil, ables_cons, views_cons, filter_true', atI_c0, atI_c1, atI_c2, atI_nil, sz_0, sz_1, sz_2, sz_3, sz_4, sz_5, sz_6, sz_7, sz_8, sz_9, sz_10, sz_11, sz_12, sz_13, sz_14, sz_15, pEq_lit, pNe_lit, pIn_2, pIn_3, pIn_4, pNotIn_3, pNotIn_4, pEq_int, pNe_int, okD_lit, okD_int, okD_non, okD_bl, atI_c3, e1, e3]
    · simp [m_without_undo, P.d, wu, sSeq, sIf, sAsg, sAsgT, sAug, sPar, sFor, sForget, sRet, sRetN, sAppend, sExtend, sNext, sBrk, sCont, sDrop, appv, isLst, gB, bv, gNp, npv, gOp, gUn, gVar, gC, gCB, gFz, fzv, gTru, tru, gAndT, gOrT, gNotT, gAnd, gOr, gNot, gIf, PL.gTup, gLst, gIsi, gIsi2, tyN_non, tyN_bl, tyN_int, tyN_str, tyN_tup, tyN_lst, tyN_tl, gSl, oNone, oSome, intv, aNil, aCons, iRange1, iRange2, rng1, rng2, iOf, itv, bLen, bAbs, bInt, bTuple, bList, lenT, pI, pAdd, pIx4, pIx, pDGet, dctAt, dat, look, tgName, forgets, retv, gCall, T.able, T.view, List.getElem?_cons_zero, List.getElem?_cons_succ, List.set_cons_zero, List.set_cons_succ, R.bind_ok, R.bindO_ok, List.length_cons, List.length_nil, dats, trees, lsd, fin, ables_map, views_map', ables_nil, views_nil, ables_cons, views_cons, filter_true', atI_c0, atI_c1, atI_c2, atI_nil, sz_0, sz_1, sz_2, sz_3, sz_4, sz_5, sz_6, sz_7, sz_8, sz_9, sz_10, sz_11, sz_12, sz_13, sz_14, sz_15, pEq_lit, pNe_lit, pIn_2, pIn_3, pIn_4, pNotIn_3, pNotIn_4, pEq_int, pNe_int, okD_lit, okD_int, okD_non, okD_bl, atI_c3, e2, e4]
  | .bth _ _, 0, _, hk => by omega
  | .und p, k + 1, ob, hk => by
    simp only [ph] at hk
    obtain ⟨e1, e2⟩ := undone_ok p k ob (by omega)
    rw [Fk_undone, Fk_without_undo, fnD_fin, fnD_fin]
    simp only [List.map_cons, List.map_nil, List.replicate, List.cons_append, List.nil_append]
    constructor
    · simp [m_undone, P.d, und', sSeq, sIf, sAsg, sAsgT, sAug, sPar, sFor, sForget, sRet, sRetN, sAppend, sExtend, sNext, sBrk, sCont, sDrop, appv, isLst, gB, bv, gNp, npv, gOp, gUn, gVar, gC, gCB, gFz, fzv, gTru, tru, gAndT, gOrT, gNotT, gAnd, gOr, gNot, gIf, PL.gTup, gLst, gIsi, gIsi2, tyN_non, tyN_bl, tyN_int, tyN_str, tyN_tup, tyN_lst, tyN_tl, gSl, oNone, oSome, intv, aNil, aCons, iRange1, iRange2, rng1, rng2, iOf, itv, bLen, bAbs, bInt, bTuple, bList, lenT, pI, pAdd, pIx4, pIx, pDGet, dctAt, dat, look, tgName, forgets, retv, gCall, T.able, T.view, List.getElem?_cons_zero, List.getElem?_cons_succ, List.set_cons_zero, List.set_cons_succ, R.bind_ok, R.bindO_ok, List.length_cons, List.length_nil, dats, trees, lsd, fin, ables_map, views_map', ables_nil, views_nil, ables_cons, views_cons, filter_true', atI_c0, atI_c1, atI_c2, atI_nil, sz_0, sz_1, sz_2, sz_3, sz_4, sz_5, sz_6, sz_7, sz_8, sz_9, sz_10, sz_11, sz_12, sz_13, sz_14, sz_15, pEq_lit, pNe_lit, pIn_2, pIn_3, pIn_4, pNotIn_3, pNotIn_4, pEq_int, pNe_int, okD_lit, okD_int, okD_non, okD_bl, atI_c3, e2]
    · simp [m_without_undo, P.d, wu, sSeq, sIf, sAsg, sAsgT, sAug, sPar, sFor, sForget, sRet, sRetN, sAppend, sExtend, sNext, sBrk, sCont, sDrop, appv, isLst, gB, bv, gNp, npv, gOp, gUn, gVar, gC, gCB, gFz, fzv, gTru, tru, gAndT, gOrT, gNotT, gAnd, gOr, gNot, gIf, PL.gTup, gLst, gIsi, gIsi2, tyN_non, tyN_bl, tyN_int, tyN_str, tyN_tup, tyN_lst, tyN_tl, gSl, oNone, oSome, intv, aNil, aCons, iRange1, iRange2, rng1, rng2, iOf, itv, bLen, bAbs, bInt, bTuple, bList, lenT, pI, pAdd, pIx4, pIx, pDGet, dctAt, dat, look, tgName, forgets, retv, gCall, T.able, T.view, List.getElem?_cons_zero, List.getElem?_cons_succ, List.set_cons_zero, List.set_cons_succ, R.bind_ok, R.bindO_ok, List.length_cons, List.length_nil, dats, trees, lsd, fin, ables_map, views_map', ables_nil, views_nil, ables_cons, views_cons, filter_true', atI_c0, atI_c1, atI_c2, atI_nil, sz_0, sz_1, sz_2, sz_3, sz_4, sz_5, sz_6, sz_7, sz_8, sz_9, sz_10, sz_11, sz_12, sz_13, sz_14, sz_15, pEq_lit, pNe_lit, pIn_2, pIn_3, pIn_4, pNotIn_3, pNotIn_4, pEq_int, pNe_int, okD_lit, okD_int, okD_non, okD_bl, atI_c3, e1]
  | .und _, 0, _, hk => by omega
  | .same a, k + 1, ob, hk => by
    rw [Fk_undone, Fk_without_undo, fnD_fin, fnD_fin]
    simp only [List.map_cons, List.map_nil, List.replicate, List.cons_append, List.nil_append]
    constructor
    · simp [m_undone, P.d, und', sSeq, sIf, sAsg, sAsgT, sAug, sPar, sFor, sForget, sRet, sRetN, sAppend, sExtend, sNext, sBrk, sCont, sDrop, appv, isLst, gB, bv, gNp, npv, gOp, gUn, gVar, gC, gCB, gFz, fzv, gTru, tru, gAndT, gOrT, gNotT, gAnd, gOr, gNot, gIf, PL.gTup, gLst, gIsi, gIsi2, tyN_non, tyN_bl, tyN_int, tyN_str, tyN_tup, tyN_lst, tyN_tl, gSl, oNone, oSome, intv, aNil, aCons, iRange1, iRange2, rng1, rng2, iOf, itv, bLen, bAbs, bInt, bTuple, bList, lenT, pI, pAdd, pIx4, pIx, pDGet, dctAt, dat, look, tgName, forgets, retv, gCall, T.able, T.view, List.getElem?_cons_zero, List.getElem?_cons_succ, List.set_cons_zero, List.set_cons_succ, R.bind_ok, R.bindO_ok, List.length_cons, List.length_nil, dats, trees, lsd, fin, ables_map, views_map', ables_nil, views_nil, ables_cons, views_cons, filter_true', atI_c0, atI_c1, atI_c2, atI_nil, sz_0, sz_1, sz_2, sz_3, sz_4, sz_5, sz_6, sz_7, sz_8, sz_9, sz_10, sz_11, sz_12, sz_13, sz_14, sz_15, pEq_lit, pNe_lit, pIn_2, pIn_3, pIn_4, pNotIn_3, pNotIn_4, pEq_int, pNe_int, okD_lit, okD_int, okD_non, okD_bl, atI_c3]
    · simp [m_without_undo, P.d, wu, sSeq, sIf, sAsg, sAsgT, sAug, sPar, sFor, sForget, sRet, sRetN, sAppend, sExtend, sNext, sBrk, sCont, sDrop, appv, isLst, gB, bv, gNp, npv, gOp, gUn, gVar, gC, gCB, gFz, fzv, gTru, tru, gAndT, gOrT, gNotT, gAnd, gOr, gNot, gIf, PL.gTup, gLst, gIsi, gIsi2, tyN_non, tyN_bl, tyN_int, tyN_str, tyN_tup, tyN_lst, tyN_tl, gSl, oNone, oSome, intv, aNil, aCons, iRange1, iRange2, rng1, rng2, iOf, itv, bLen, bAbs, bInt, bTuple, bList, lenT, pI, pAdd, pIx4, pIx, pDGet, dctAt, dat, look, tgName, forgets, retv, gCall, T.able, T.view, List.getElem?_cons_zero, List.getElem?_cons_succ, List.set_cons_zero, List.set_cons_succ, R.bind_ok, R.bindO_ok, List.length_cons, List.length_nil, dats, trees, lsd, fin, ables_map, views_map', ables_nil, views_nil, ables_cons, views_cons, filter_true', atI_c0, atI_c1, atI_c2, atI_nil, sz_0, sz_1, sz_2, sz_3, sz_4, sz_5, sz_6, sz_7, sz_8, sz_9, sz_10, sz_11, sz_12, sz_13, sz_14, sz_15, pEq_lit, pNe_lit, pIn_2, pIn_3, pIn_4, pNotIn_3, pNotIn_4, pEq_int, pNe_int, okD_lit, okD_int, okD_non, okD_bl, atI_c3]
  | .same _, 0, _, hk => by omega
  | .drop a, k + 1, ob, hk => by
    rw [Fk_undone, Fk_without_undo, fnD_fin, fnD_fin]
    simp only [List.map_cons, List.map_nil, List.replicate, List.cons_append, List.nil_append]
    constructor
    · simp [m_undone, P.d, und', sSeq, sIf, sAsg, sAsgT, sAug, sPar, sFor, sForget, sRet, sRetN, sAppend, sExtend, sNext, sBrk, sCont, sDrop, appv, isLst, gB, bv, gNp, npv, gOp, gUn, gVar, gC, gCB, gFz, fzv, gTru, tru, gAndT, gOrT, gNotT, gAnd, gOr, gNot, gIf, PL.gTup, gLst, gIsi, gIsi2, tyN_non, tyN_bl, tyN_int, tyN_str, tyN_tup, tyN_lst, tyN_tl, gSl, oNone, oSome, intv, aNil, aCons, iRange1, iRange2, rng1, rng2, iOf, itv, bLen, bAbs, bInt, bTuple, bList, lenT, pI, pAdd, pIx4, pIx, pDGet, dctAt, dat, look, tgName, forgets, retv, gCall, T.able, T.view, List.getElem?_cons_zero, List.getElem?_cons_succ, List.set_cons_zero, List.set_cons_succ, R.bind_ok, R.bindO_ok, List.length_cons, List.length_nil, dats, trees, lsd, fin, ables_map, views_map', ables_nil, views_nil, ables_cons, views_cons, filter_true', atI_c0, atI_c1, atI_c2, atI_nil, sz_0, sz_1, sz_2, sz_3, sz_4, sz_5, sz_6, sz_7, sz_8, sz_9, sz_10, sz_11, sz_12, sz_13, sz_14, sz_15, pEq_lit, pNe_lit, pIn_2, pIn_3, pIn_4, pNotIn_3, pNotIn_4, pEq_int, pNe_int, okD_lit, okD_int, okD_non, okD_bl, atI_c3]
    · simp [m_without_undo, P.d, wu, sSeq, sIf, sAsg, sAsgT, sAug, sPar, sFor, sForget, sRet, sRetN, sAppend, sExtend, sNext, sBrk, sCont, sDrop, appv, isLst, gB, bv, gNp, npv, gOp, gUn, gVar, gC, gCB, gFz, fzv, gTru, tru, gAndT, gOrT, gNotT, gAnd, gOr, gNot, gIf, PL.gTup, gLst, gIsi, gIsi2, tyN_non, tyN_bl, tyN_int, tyN_str, tyN_tup, tyN_lst, tyN_tl, gSl, oNone, oSome, intv, aNil, aCons, iRange1, iRange2, rng1, rng2, iOf, itv, bLen, bAbs, bInt, bTuple, bList, lenT, pI, pAdd, pIx4, pIx, pDGet, dctAt, dat, look, tgName, forgets, retv, gCall, T.able, T.view, List.getElem?_cons_zero, List.getElem?_cons_succ, List.set_cons_zero, List.set_cons_succ, R.bind_ok, R.bindO_ok, List.length_cons, List.length_nil, dats, trees, lsd, fin, ables_map, views_map', ables_nil, views_nil, ables_cons, views_cons, filter_true', atI_c0, atI_c1, atI_c2, atI_nil, sz_0, sz_1, sz_2, sz_3, sz_4, sz_5, sz_6, sz_7, sz_8, sz_9, sz_10, sz_11, sz_12, sz_13, sz_14, sz_15, pEq_lit, pNe_lit, pIn_2, pIn_3, pIn_4, pNotIn_3, pNotIn_4, pEq_int, pNe_int, okD_lit, okD_int, okD_non, okD_bl, atI_c3]
  | .drop _, 0, _, hk => by omega
  | .turnS a b, k + 1, ob, hk => by
    rw [Fk_undone, Fk_without_undo, fnD_fin, fnD_fin]
    simp only [List.map_cons, List.map_nil, List.replicate, List.cons_append, List.nil_append]
    constructor
    · simp [m_undone, P.d, und', sSeq, sIf, sAsg, sAsgT, sAug, sPar, sFor, sForget, sRet, sRetN, sAppend, sExtend, sNext, sBrk, sCont, sDrop, appv, isLst, gB, bv, gNp, npv, gOp, gUn, gVar, gC, gCB, gFz, fzv, gTru, tru, gAndT, gOrT, gNotT, gAnd, gOr, gNot, gIf, PL.gTup, gLst, gIsi, gIsi2, tyN_non, tyN_bl, tyN_int, tyN_str, tyN_tup, tyN_lst, tyN_tl, gSl, oNone, oSome, intv, aNil, aCons, iRange1, iRange2, rng1, rng2, iOf, itv, bLen, bAbs, bInt, bTuple, bList, lenT, pI, pAdd, pIx4, pIx, pDGet, dctAt, dat, look, tgName, forgets, retv, gCall, T.able, T.view, List.getElem?_cons_zero, List.getElem?_cons_succ, List.set_cons_zero, List.set_cons_succ, R.bind_ok, R.bindO_ok, List.length_cons, List.length_nil, dats, trees, lsd, fin, ables_map, views_map', ables_nil, views_nil, ables_cons, views_cons, filter_true', atI_c0, atI_c1, atI_c2, atI_nil, sz_0, sz_1, sz_2, sz_3, sz_4, sz_5, sz_6, sz_7, sz_8, sz_9, sz_10, sz_11, sz_12, sz_13, sz_14, sz_15, pEq_lit, pNe_lit, pIn_2, pIn_3, pIn_4, pNotIn_3, pNotIn_4, pEq_int, pNe_int, okD_lit, okD_int, okD_non, okD_bl, atI_c3]
    · simp [m_without_undo, P.d, wu, sSeq, sIf, sAsg, sAsgT, sAug, sPar, sFor, sForget, sRet, sRetN, sAppend, sExtend, sNext, sBrk, sCont, sDrop, appv, isLst, gB, bv, gNp, npv, gOp, gUn, gVar, gC, gCB, gFz, fzv, gTru, tru, gAndT, gOrT, gNotT, gAnd, gOr, gNot, gIf, PL.gTup, gLst, gIsi, gIsi2, tyN_non, tyN_bl, tyN_int, tyN_str, tyN_tup, tyN_lst, tyN_tl, gSl, oNone, oSome, intv, aNil, aCons, iRange1, iRange2, rng1, rng2, iOf, itv, bLen, bAbs, bInt, bTuple, bList, lenT, pI, pAdd, pIx4, pIx, pDGet, dctAt, dat, look, tgName, forgets, retv, gCall, T.able, T.view, List.getElem?_cons_zero, List.getElem?_cons_succ, List.set_cons_zero, List.set_cons_succ, R.bind_ok, R.bindO_ok, List.length_cons, List.length_nil, dats, trees, lsd, fin, ables_map, views_map', ables_nil, views_nil, ables_cons, views_cons, filter_true', atI_c0, atI_c1, atI_c2, atI_nil, sz_0, sz_1, sz_2, sz_3, sz_4, sz_5, sz_6, sz_7, sz_8, sz_9, sz_10, sz_11, sz_12, sz_13, sz_14, sz_15, pEq_lit, pNe_lit, pIn_2, pIn_3, pIn_4, pNotIn_3, pNotIn_4, pEq_int, pNe_int, okD_lit, okD_int, okD_non, okD_bl, atI_c3]
  | .turnS _ _, 0, _, hk => by omega
  | .turnP a b, k + 1, ob, hk => by
    rw [Fk_undone, Fk_without_undo, fnD_fin, fnD_fin]
    simp only [List.map_cons, List.map_nil, List.replicate, List.cons_append, List.nil_append]
    constructor
    · simp [m_undone, P.d, und', sSeq, sIf, sAsg, sAsgT, sAug, sPar, sFor, sForget, sRet, sRetN, sAppend, sExtend, sNext, sBrk, sCont, sDrop, appv, isLst, gB, bv, gNp, npv, gOp, gUn, gVar, gC, gCB, gFz, fzv, gTru, tru, gAndT, gOrT, gNotT, gAnd, gOr, gNot, gIf, PL.gTup, gLst, gIsi, gIsi2, tyN_non, tyN_bl, tyN_int, tyN_str, tyN_tup, tyN_lst, tyN_tl, gSl, oNone, oSome, intv, aNil, aCons, iRange1, iRange2, rng1, rng2, iOf, itv, bLen, bAbs, bInt, bTuple, bList, lenT, pI, pAdd, pIx4, pIx, pDGet, dctAt, dat, look, tgName, forgets, retv, gCall, T.able, T.view, List.getElem?_cons_zero, List.getElem?_cons_succ, List.set_cons_zero, List.set_cons_succ, R.bind_ok, R.bindO_ok, List.length_cons, List.length_nil, dats, trees, lsd, fin, ables_map, views_map', ables_nil, views_nil, ables_cons, views_cons, filter_true', atI_c0, atI_c1, atI_c2, atI_nil, sz_0, sz_1, sz_2, sz_3, sz_4, sz_5, sz_6, sz_7, sz_8, sz_9, sz_10, sz_11, sz_12, sz_13, sz_14, sz_15, pEq_lit, pNe_lit, pIn_2, pIn_3, pIn_4, pNotIn_3, pNotIn_4, pEq_int, pNe_int, okD_lit, okD_int, okD_non, okD_bl, atI_c3]
    · simp [m_without_undo, P.d, wu, sSeq, sIf, sAsg, sAsgT, sAug, sPar, sFor, sForget, sRet, sRetN, sAppend, sExtend, sNext, sBrk, sCont, sDrop, appv, isLst, gB, bv, gNp, npv, gOp, gUn, gVar, gC, gCB, gFz, fzv, gTru, tru, gAndT, gOrT, gNotT, gAnd, gOr, gNot, gIf, PL.gTup, gLst, gIsi, gIsi2, tyN_non, tyN_bl, tyN_int, tyN_str, tyN_tup, tyN_lst, tyN_tl, gSl, oNone, oSome, intv, aNil, aCons, iRange1, iRange2, rng1, rng2, iOf, itv, bLen, bAbs, bInt, bTuple, bList, lenT, pI, pAdd, pIx4, pIx, pDGet, dctAt, dat, look, tgName, forgets, retv, gCall, T.able, T.view, List.getElem?_cons_zero, List.getElem?_cons_succ, List.set_cons_zero, List.set_cons_succ, R.bind_ok, R.bindO_ok, List.length_cons, List.length_nil, dats, trees, lsd, fin, ables_map, views_map', ables_nil, views_nil, ables_cons, views_cons, filter_true', atI_c0, atI_c1, atI_c2, atI_nil, sz_0, sz_1, sz_2, sz_3, sz_4, sz_5, sz_6, sz_7, sz_8, sz_9, sz_10, sz_11, sz_12, sz_13, sz_14, sz_15, pEq_lit, pNe_lit, pIn_2, pIn_3, pIn_4, pNotIn_3, pNotIn_4, pEq_int, pNe_int, okD_lit, okD_int, okD_non, okD_bl, atI_c3]
  | .turnP _ _, 0, _, hk => by omega
  | .spread a b c, k + 1, ob, hk => by
    rw [Fk_undone, Fk_without_undo, fnD_fin, fnD_fin]
    simp only [List.map_cons, List.map_nil, List.replicate, List.cons_append, List.nil_append]
    constructor
    · simp [m_undone, P.d, und', sSeq, sIf, sAsg, sAsgT, sAug, sPar, sFor, sForget, sRet, sRetN, sAppend, sExtend, sNext, sBrk, sCont, sDrop, appv, isLst, gB, bv, gNp, npv, gOp, gUn, gVar, gC, gCB, gFz, fzv, gTru, tru, gAndT, gOrT, gNotT, gAnd, gOr, gNot, gIf, PL.gTup, gLst, gIsi, gIsi2, tyN_non, tyN_bl, tyN_int, tyN_str, tyN_tup, tyN_lst, tyN_tl, gSl, oNone, oSome, intv, aNil, aCons, iRange1, iRange2, rng1, rng2, iOf, itv, bLen, bAbs, bInt, bTuple, bList, lenT, pI, pAdd, pIx4, pIx, pDGet, dctAt, dat, look, tgName, forgets, retv, gCall, T.able, T.view, List.getElem?_cons_zero, List.getElem?_cons_succ, List.set_cons_zero, List.set_cons_succ, R.bind_ok, R.bindO_ok, List.length_cons, List.length_nil, dats, trees, lsd, fin, ables_map, views_map', ables_nil, views_nil, ables_cons, views_cons, filter_true', atI_c0, atI_c1, atI_c2, atI_nil, sz_0, sz_1, sz_2, sz_3, sz_4, sz_5, sz_6, sz_7, sz_8, sz_9, sz_10, sz_11, sz_12, sz_13, sz_14, sz_15, pEq_lit, pNe_lit, pIn_2, pIn_3, pIn_4, pNotIn_3, pNotIn_4, pEq_int, pNe_int, okD_lit, okD_int, okD_non, okD_bl, atI_c3]
    · simp [m_without_undo, P.d, wu, sSeq, sIf, sAsg, sAsgT, sAug, sPar, sFor, sForget, sRet, sRetN, sAppend, sExtend, sNext, sBrk, sCont, sDrop, appv, isLst, gB, bv, gNp, npv, gOp, gUn, gVar, gC, gCB, gFz, fzv, gTru, tru, gAndT, gOrT, gNotT, gAnd, gOr, gNot, gIf, PL.gTup, gLst, gIsi, gIsi2, tyN_non, tyN_bl, tyN_int, tyN_str, tyN_tup, tyN_lst, tyN_tl, gSl, oNone, oSome, intv, aNil, aCons, iRange1, iRange2, rng1, rng2, iOf, itv, bLen, bAbs, bInt, bTuple, bList, lenT, pI, pAdd, pIx4, pIx, pDGet, dctAt, dat, look, tgName, forgets, retv, gCall, T.able, T.view, List.getElem?_cons_zero, List.getElem?_cons_succ, List.set_cons_zero, List.set_cons_succ, R.bind_ok, R.bindO_ok, List.length_cons, List.length_nil, dats, trees, lsd, fin, ables_map, views_map', ables_nil, views_nil, ables_cons, views_cons, filter_true', atI_c0, atI_c1, atI_c2, atI_nil, sz_0, sz_1, sz_2, sz_3, sz_4, sz_5, sz_6, sz_7, sz_8, sz_9, sz_10, sz_11, sz_12, sz_13, sz_14, sz_15, pEq_lit, pNe_lit, pIn_2, pIn_3, pIn_4, pNotIn_3, pNotIn_4, pEq_int, pNe_int, okD_lit, okD_int, okD_non, okD_bl, atI_c3]
  | .spread _ _ _, 0, _, hk => by omega
  | .shiftS a b c, k + 1, ob, hk => by
    rw [Fk_undone, Fk_without_undo, fnD_fin, fnD_fin]
    simp only [List.map_cons, List.map_nil, List.replicate, List.cons_append, List.nil_append]
    constructor
    · simp [m_undone, P.d, und', sSeq, sIf, sAsg, sAsgT, sAug, sPar, sFor, sForget, sRet, sRetN, sAppend, sExtend, sNext, sBrk, sCont, sDrop, appv, isLst, gB, bv, gNp, npv, gOp, gUn, gVar, gC, gCB, gFz, fzv, gTru, tru, gAndT, gOrT, gNotT, gAnd, gOr, gNot, gIf, PL.gTup, gLst, gIsi, gIsi2, tyN_non, tyN_bl, tyN_int, tyN_str, tyN_tup, tyN_lst, tyN_tl, gSl, oNone, oSome, intv, aNil, aCons, iRange1, iRange2, rng1, rng2, iOf, itv, bLen, bAbs, bInt, bTuple, bList, lenT, pI, pAdd, pIx4, pIx, pDGet, dctAt, dat, look, tgName, forgets, retv, gCall, T.able, T.view, List.getElem?_cons_zero, List.getElem?_cons_succ, List.set_cons_zero, List.set_cons_succ, R.bind_ok, R.bindO_ok, List.length_cons, List.length_nil, dats, trees, lsd, fin, ables_map, views_map', ables_nil, views_nil, ables_cons, views_cons, filter_true', atI_c0, atI_c1, atI_c2, atI_nil, sz_0, sz_1, sz_2, sz_3, sz_4, sz_5, sz_6, sz_7, sz_8, sz_9, sz_10, sz_11, sz_12, sz_13, sz_14, sz_15, pEq_lit, pNe_lit, pIn_2, pIn_3, pIn_4, pNotIn_3, pNotIn_4, pEq_int, pNe_int, okD_lit, okD_int, okD_non, okD_bl, atI_c3]
    · simp [m_without_undo, P.d, wu, sSeq, sIf, sAsg, sAsgT, sAug, sPar, sFor, sForget, sRet, sRetN, sAppend, sExtend, sNext, sBrk, sCont, sDrop, appv, isLst, gB, bv, gNp, npv, gOp, gUn, gVar, gC, gCB, gFz, fzv, gTru, tru, gAndT, gOrT, gNotT, gAnd, gOr, gNot, gIf, PL.gTup, gLst, gIsi, gIsi2, tyN_non, tyN_bl, tyN_int, tyN_str, tyN_tup, tyN_lst, tyN_tl, gSl, oNone, oSome, intv, aNil, aCons, iRange1, iRange2, rng1, rng2, iOf, itv, bLen, bAbs, bInt, bTuple, bList, lenT, pI, pAdd, pIx4, pIx, pDGet, dctAt, dat, look, tgName, forgets, retv, gCall, T.able, T.view, List.getElem?_cons_zero, List.getElem?_cons_succ, List.set_cons_zero, List.set_cons_succ, R.bind_ok, R.bindO_ok, List.length_cons, List.length_nil, dats, trees, lsd, fin, ables_map, views_map', ables_nil, views_nil, ables_cons, views_cons, filter_true', atI_c0, atI_c1, atI_c2, atI_nil, sz_0, sz_1, sz_2, sz_3, sz_4, sz_5, sz_6, sz_7, sz_8, sz_9, sz_10, sz_11, sz_12, sz_13, sz_14, sz_15, pEq_lit, pNe_lit, pIn_2, pIn_3, pIn_4, pNotIn_3, pNotIn_4, pEq_int, pNe_int, okD_lit, okD_int, okD_non, okD_bl, atI_c3]
  | .shiftS _ _ _, 0, _, hk => by omega
  | .shiftP a b c, k + 1, ob, hk => by
    rw [Fk_undone, Fk_without_undo, fnD_fin, fnD_fin]
    simp only [List.map_cons, List.map_nil, List.replicate, List.cons_append, List.nil_append]
    constructor
    · simp [m_undone, P.d, und', sSeq, sIf, sAsg, sAsgT, sAug, sPar, sFor, sForget, sRet, sRetN, sAppend, sExtend, sNext, sBrk, sCont, sDrop, appv, isLst, gB, bv, gNp, npv, gOp, gUn, gVar, gC, gCB, gFz, fzv, gTru, tru, gAndT, gOrT, gNotT, gAnd, gOr, gNot, gIf, PL.gTup, gLst, gIsi, gIsi2, tyN_non, tyN_bl, tyN_int, tyN_str, tyN_tup, tyN_lst, tyN_tl, gSl, oNone, oSome, intv, aNil, aCons, iRange1, iRange2, rng1, rng2, iOf, itv, bLen, bAbs, bInt, bTuple, bList, lenT, pI, pAdd, pIx4, pIx, pDGet, dctAt, dat, look, tgName, forgets, retv, gCall, T.able, T.view, List.getElem?_cons_zero, List.getElem?_cons_succ, List.set_cons_zero, List.set_cons_succ, R.bind_ok, R.bindO_ok, List.length_cons, List.length_nil, dats, trees, lsd, fin, ables_map, views_map', ables_nil, views_nil, ables_cons, views_cons, filter_true', atI_c0, atI_c1, atI_c2, atI_nil, sz_0, sz_1, sz_2, sz_3, sz_4, sz_5, sz_6, sz_7, sz_8, sz_9, sz_10, sz_11, sz_12, sz_13, sz_14, sz_15, pEq_lit, pNe_lit, pIn_2, pIn_3, pIn_4, pNotIn_3, pNotIn_4, pEq_int, pNe_int, okD_lit, okD_int, okD_non, okD_bl, atI_c3]
    · simp [m_without_undo, P.d, wu, sSeq, sIf, sAsg, sAsgT, sAug, sPar, sFor, sForget, sRet, sRetN, sAppend, sExtend, sNext, sBrk, sCont, sDrop, appv, isLst, gB, bv, gNp, npv, gOp, gUn, gVar, gC, gCB, gFz, fzv, gTru, tru, gAndT, gOrT, gNotT, gAnd, gOr, gNot, gIf, PL.gTup, gLst, gIsi, gIsi2, tyN_non, tyN_bl, tyN_int, tyN_str, tyN_tup, tyN_lst, tyN_tl, gSl, oNone, oSome, intv, aNil, aCons, iRange1, iRange2, rng1, rng2, iOf, itv, bLen, bAbs, bInt, bTuple, bList, lenT, pI, pAdd, pIx4, pIx, pDGet, dctAt, dat, look, tgName, forgets, retv, gCall, T.able, T.view, List.getElem?_cons_zero, List.getElem?_cons_succ, List.set_cons_zero, List.set_cons_succ, R.bind_ok, R.bindO_ok, List.length_cons, List.length_nil, dats, trees, lsd, fin, ables_map, views_map', ables_nil, views_nil, ables_cons, views_cons, filter_true', atI_c0, atI_c1, atI_c2, atI_nil, sz_0, sz_1, sz_2, sz_3, sz_4, sz_5, sz_6, sz_7, sz_8, sz_9, sz_10, sz_11, sz_12, sz_13, sz_14, sz_15, pEq_lit, pNe_lit, pIn_2, pIn_3, pIn_4, pNotIn_3, pNotIn_4, pEq_int, pNe_int, okD_lit, okD_int, okD_non, okD_bl, atI_c3]
  | .shiftP _ _ _, 0, _, hk => by omega
end L_k62
set_option Elab.async false
set_option linter.all false
set_option maxRecDepth 100000
set_option autoImplicit false
set_option maxHeartbeats 0
namespace L_k62
open PySem PySem.Spec PyProof.Rows L2 PL
theorem turned_ok (k : Nat) (x : D) (ob : List T) : Fk (k + 1) 4 [lf x] ob = .ok (.fz (rt x)) ob ∧ Fk (k + 1) 4 [rt x] ob = .ok (.fz (lf x)) ob := by
  rw [Fk_turned_sum, fnD_fin, fnD_fin]
  simp only [List.map_cons, List.map_nil, List.replicate, List.cons_append, List.nil_append]
  constructor <;> simp [m_turned_sum, lf, rt, sSeq, sIf, sAsg, sAsgT, sAug, sPar, sFor, sForget, sRet, sRetN, sAppend, sExtend, sNext, sBrk, sCont, sDrop, appv, isLst, gB, bv, gNp, npv, gOp, gUn, gVar, gC, gCB, gFz, fzv, gTru, tru, gAndT, gOrT, gNotT, gAnd, gOr, gNot, gIf, PL.gTup, gLst, gIsi, gIsi2, tyN_non, tyN_bl, tyN_int, tyN_str, tyN_tup, tyN_lst, tyN_tl, gSl, oNone, oSome, intv, aNil, aCons, iRange1, iRange2, rng1, rng2, iOf, itv, bLen, bAbs, bInt, bTuple, bList, lenT, pI, pAdd, pIx4, pIx, pDGet, dctAt, dat, look, tgName, forgets, retv, gCall, T.able, T.view, List.getElem?_cons_zero, List.getElem?_cons_succ, List.set_cons_zero, List.set_cons_succ, R.bind_ok, R.bindO_ok, List.length_cons, List.length_nil, dats, trees, lsd, fin, ables_map, views_map', ables_nil, views_nil, ables_cons, views_cons, filter_true', atI_c0, atI_c1, atI_c2, atI_nil, sz_0, sz_1, sz_2, sz_3, sz_4, sz_5, sz_6, sz_7, sz_8, sz_9, sz_10, sz_11, sz_12, sz_13, sz_14, sz_15, pEq_lit, pNe_lit, pIn_2, pIn_3, pIn_4, pNotIn_3, pNotIn_4, pEq_int, pNe_int, okD_lit, okD_int, okD_non, okD_bl]
theorem run_tS_l (a b : Ty) (x : D) : run (.turnS a b) (lf x) = rt x := by simp [run, isL_lf, at1_lf]
theorem run_tS_r (a b : Ty) (x : D) : run (.turnS a b) (rt x) = lf x := by simp [run, isL_rt, at1_rt]
theorem run_e_l (p q : P) (x : D) : run (.eth p q) (lf x) = lf (run p x) := by simp [run, isL_lf, at1_lf]
theorem run_e_r (p q : P) (x : D) : run (.eth p q) (rt x) = rt (run q x) := by simp [run, isL_rt, at1_rt]
theorem bk_e_l (p q : P) (x : D) : bk (.eth p q) (lf x) = lf (bk p x) := by simp [bk, isL_lf, at1_lf]
theorem bk_e_r (p q : P) (x : D) : bk (.eth p q) (rt x) = rt (bk q x) := by simp [bk, isL_rt, at1_rt]
theorem run_sS_ll (a b c : Ty) (x : D) : run (.shiftS a b c) (lf (lf x)) = lf x := by simp [run, isL_lf, at1_lf]
theorem run_sS_lr (a b c : Ty) (x : D) : run (.shiftS a b c) (lf (rt x)) = rt (lf x) := by simp [run, isL_lf, isL_rt, at1_lf, at1_rt]
theorem run_sS_r (a b c : Ty) (x : D) : run (.shiftS a b c) (rt x) = rt (rt x) := by simp [run, isL_rt]
theorem bk_sS_l (a b c : Ty) (x : D) : bk (.shiftS a b c) (lf x) = lf (lf x) := by simp [bk, isL_lf]
theorem bk_sS_rl (a b c : Ty) (x : D) : bk (.shiftS a b c) (rt (lf x)) = lf (rt x) := by simp [bk, isL_lf, isL_rt, at1_lf, at1_rt]
theorem bk_sS_rr (a b c : Ty) (x : D) : bk (.shiftS a b c) (rt (rt x)) = rt x := by simp [bk, isL_rt, at1_rt]
def DOK (p : P) (s : Ty) : Prop := ∀ (k : Nat) (ob : List T) (v : D), v ∈ s.vals → 2 * ph p + 1 < k → Fk k 5 [p.d, v] ob = .ok (.fz (run p v)) ob
def BOK (p : P) (t : Ty) : Prop := ∀ (k : Nat) (ob : List T) (v : D), v ∈ t.vals → 2 * ph p + 2 < k → Fk k 6 [p.d, v] ob = .ok (.fz (bk p v)) ob
theorem done_ok : ∀ (p : P) (s t : Ty), typ p = some (s, t) → DOK p s ∧ BOK p t
  | .same a, s, t, h => by
    cases h
    have hd : DOK (.same a) a := fun k ob v hv hk => by
      obtain ⟨k, rfl⟩ : ∃ k', k = k' + 1 := ⟨k - 1, by omega⟩
      rw [Fk_done, fnD_fin]
      simp only [List.map_cons, List.map_nil, List.replicate, List.cons_append, List.nil_append]
      simp [m_done, P.d, run, sSeq, sIf, sAsg, sAsgT, sAug, sPar, sFor, sForget, sRet, sRetN, sAppend, sExtend, sNext, sBrk, sCont, sDrop, appv, isLst, gB, bv, gNp, npv, gOp, gUn, gVar, gC, gCB, gFz, fzv, gTru, tru, gAndT, gOrT, gNotT, gAnd, gOr, gNot, gIf, PL.gTup, gLst, gIsi, gIsi2, tyN_non, tyN_bl, tyN_int, tyN_str, tyN_tup, tyN_lst, tyN_tl, gSl, oNone, oSome, intv, aNil, aCons, iRange1, iRange2, rng1, rng2, iOf, itv, bLen, bAbs, bInt, bTuple, bList, lenT, pI, pAdd, pIx4, pIx, pDGet, dctAt, dat, look, tgName, forgets, retv, gCall, T.able, T.view, List.getElem?_cons_zero, List.getElem?_cons_succ, List.set_cons_zero, List.set_cons_succ, R.bind_ok, R.bindO_ok, List.length_cons, List.length_nil, dats, trees, lsd, fin, ables_map, views_map', ables_nil, views_nil, ables_cons, views_cons, filter_true', atI_c0, atI_c1, atI_c2, atI_nil, sz_0, sz_1, sz_2, sz_3, sz_4, sz_5, sz_6, sz_7, sz_8, sz_9, sz_10, sz_11, sz_12, sz_13, sz_14, sz_15, pEq_lit, pNe_lit, pIn_2, pIn_3, pIn_4, pNotIn_3, pNotIn_4, pEq_int, pNe_int, okD_lit, okD_int, okD_non, okD_bl]
    refine ⟨hd, fun k ob v hv hk => ?_⟩
    simp only [ph] at hk
    obtain ⟨k, rfl⟩ : ∃ k', k = k' + 1 := ⟨k - 1, by omega⟩
    have e := hd k ob v hv (by simp only [ph]; omega)
    rw [Fk_back, fnD_fin]
    simp only [List.map_cons, List.map_nil, List.replicate, List.cons_append, List.nil_append]
    simp only [P.d] at e ⊢
    simp [m_back, bk, run, sSeq, sIf, sAsg, sAsgT, sAug, sPar, sFor, sForget, sRet, sRetN, sAppend, sExtend, sNext, sBrk, sCont, sDrop, appv, isLst, gB, bv, gNp, npv, gOp, gUn, gVar, gC, gCB, gFz, fzv, gTru, tru, gAndT, gOrT, gNotT, gAnd, gOr, gNot, gIf, PL.gTup, gLst, gIsi, gIsi2, tyN_non, tyN_bl, tyN_int, tyN_str, tyN_tup, tyN_lst, tyN_tl, gSl, oNone, oSome, intv, aNil, aCons, iRange1, iRange2, rng1, rng2, iOf, itv, bLen, bAbs, bInt, bTuple, bList, lenT, pI, pAdd, pIx4, pIx, pDGet, dctAt, dat, look, tgName, forgets, retv, gCall, T.able, T.view, List.getElem?_cons_zero, List.getElem?_cons_succ, List.set_cons_zero, List.set_cons_succ, R.bind_ok, R.bindO_ok, List.length_cons, List.length_nil, dats, trees, lsd, fin, ables_map, views_map', ables_nil, views_nil, ables_cons, views_cons, filter_true', atI_c0, atI_c1, atI_c2, atI_nil, sz_0, sz_1, sz_2, sz_3, sz_4, sz_5, sz_6, sz_7, sz_8, sz_9, sz_10, sz_11, sz_12, sz_13, sz_14, sz_15, pEq_lit, pNe_lit, pIn_2, pIn_3, pIn_4, pNotIn_3, pNotIn_4, pEq_int, pNe_int, okD_lit, okD_int, okD_non, okD_bl, e]
  | .drop a, s, t, h => by
    cases h
    refine ⟨fun k ob v hv hk => ?_, fun k ob v hv hk => ?_⟩
    · obtain ⟨k, rfl⟩ : ∃ k', k = k' + 1 := ⟨k - 1, by omega⟩
      obtain ⟨x, hx, y, hy, rfl⟩ := m_pair.mp hv
      rw [Fk_done, fnD_fin]
      simp only [List.map_cons, List.map_nil, List.replicate, List.cons_append, List.nil_append]
      simp [m_done, P.d, run, pr, at1, sSeq, sIf, sAsg, sAsgT, sAug, sPar, sFor, sForget, sRet, sRetN, sAppend, sExtend, sNext, sBrk, sCont, sDrop, appv, isLst, gB, bv, gNp, npv, gOp, gUn, gVar, gC, gCB, gFz, fzv, gTru, tru, gAndT, gOrT, gNotT, gAnd, gOr, gNot, gIf, PL.gTup, gLst, gIsi, gIsi2, tyN_non, tyN_bl, tyN_int, tyN_str, tyN_tup, tyN_lst, tyN_tl, gSl, oNone, oSome, intv, aNil, aCons, iRange1, iRange2, rng1, rng2, iOf, itv, bLen, bAbs, bInt, bTuple, bList, lenT, pI, pAdd, pIx4, pIx, pDGet, dctAt, dat, look, tgName, forgets, retv, gCall, T.able, T.view, List.getElem?_cons_zero, List.getElem?_cons_succ, List.set_cons_zero, List.set_cons_succ, R.bind_ok, R.bindO_ok, List.length_cons, List.length_nil, dats, trees, lsd, fin, ables_map, views_map', ables_nil, views_nil, ables_cons, views_cons, filter_true', atI_c0, atI_c1, atI_c2, atI_nil, sz_0, sz_1, sz_2, sz_3, sz_4, sz_5, sz_6, sz_7, sz_8, sz_9, sz_10, sz_11, sz_12, sz_13, sz_14, sz_15, pEq_lit, pNe_lit, pIn_2, pIn_3, pIn_4, pNotIn_3, pNotIn_4, pEq_int, pNe_int, okD_lit, okD_int, okD_non, okD_bl]
    · obtain ⟨k, rfl⟩ : ∃ k', k = k' + 1 := ⟨k - 1, by omega⟩
      rw [Fk_back, fnD_fin]
      simp only [List.map_cons, List.map_nil, List.replicate, List.cons_append, List.nil_append]
      simp [m_back, P.d, bk, pr, sSeq, sIf, sAsg, sAsgT, sAug, sPar, sFor, sForget, sRet, sRetN, sAppend, sExtend, sNext, sBrk, sCont, sDrop, appv, isLst, gB, bv, gNp, npv, gOp, gUn, gVar, gC, gCB, gFz, fzv, gTru, tru, gAndT, gOrT, gNotT, gAnd, gOr, gNot, gIf, PL.gTup, gLst, gIsi, gIsi2, tyN_non, tyN_bl, tyN_int, tyN_str, tyN_tup, tyN_lst, tyN_tl, gSl, oNone, oSome, intv, aNil, aCons, iRange1, iRange2, rng1, rng2, iOf, itv, bLen, bAbs, bInt, bTuple, bList, lenT, pI, pAdd, pIx4, pIx, pDGet, dctAt, dat, look, tgName, forgets, retv, gCall, T.able, T.view, List.getElem?_cons_zero, List.getElem?_cons_succ, List.set_cons_zero, List.set_cons_succ, R.bind_ok, R.bindO_ok, List.length_cons, List.length_nil, dats, trees, lsd, fin, ables_map, views_map', ables_nil, views_nil, ables_cons, views_cons, filter_true', atI_c0, atI_c1, atI_c2, atI_nil, sz_0, sz_1, sz_2, sz_3, sz_4, sz_5, sz_6, sz_7, sz_8, sz_9, sz_10, sz_11, sz_12, sz_13, sz_14, sz_15, pEq_lit, pNe_lit, pIn_2, pIn_3, pIn_4, pNotIn_3, pNotIn_4, pEq_int, pNe_int, okD_lit, okD_int, okD_non, okD_bl]
  | .turnS a b, s, t, h => by
    cases h
    have hd : ∀ (k : Nat) (ob : List T) (x : D), 1 < k → Fk k 5 [(P.turnS a b).d, lf x] ob = .ok (.fz (rt x)) ob ∧ Fk k 5 [(P.turnS a b).d, rt x] ob = .ok (.fz (lf x)) ob := fun k ob x hk => by
      obtain ⟨k, rfl⟩ : ∃ k', k = k' + 2 := ⟨k - 2, by omega⟩
      obtain ⟨e1, e2⟩ := turned_ok k x ob
      rw [Fk_done, fnD_fin, fnD_fin]
      simp only [List.map_cons, List.map_nil, List.replicate, List.cons_append, List.nil_append]
      simp only [lf, rt] at e1 e2 ⊢
      constructor
      · simp [m_done, P.d, sSeq, sIf, sAsg, sAsgT, sAug, sPar, sFor, sForget, sRet, sRetN, sAppend, sExtend, sNext, sBrk, sCont, sDrop, appv, isLst, gB, bv, gNp, npv, gOp, gUn, gVar, gC, gCB, gFz, fzv, gTru, tru, gAndT, gOrT, gNotT, gAnd, gOr, gNot, gIf, PL.gTup, gLst, gIsi, gIsi2, tyN_non, tyN_bl, tyN_int, tyN_str, tyN_tup, tyN_lst, tyN_tl, gSl, oNone, oSome, intv, aNil, aCons, iRange1, iRange2, rng1, rng2, iOf, itv, bLen, bAbs, bInt, bTuple, bList, lenT, pI, pAdd, pIx4, pIx, pDGet, dctAt, dat, look, tgName, forgets, retv, gCall, T.able, T.view, List.getElem?_cons_zero, List.getElem?_cons_succ, List.set_cons_zero, List.set_cons_succ, R.bind_ok, R.bindO_ok, List.length_cons, List.length_nil, dats, trees, lsd, fin, ables_map, views_map', ables_nil, views_nil, ables_cons, views_cons, filter_true', atI_c0, atI_c1, atI_c2, atI_nil, sz_0, sz_1, sz_2, sz_3, sz_4, sz_5, sz_6, sz_7, sz_8, sz_9, sz_10, sz_11, sz_12, sz_13, sz_14, sz_15, pEq_lit, pNe_lit, pIn_2, pIn_3, pIn_4, pNotIn_3, pNotIn_4, pEq_int, pNe_int, okD_lit, okD_int, okD_non, okD_bl, e1]
      · simp [m_done, P.d, sSeq, sIf, sAsg, sAsgT, sAug, sPar, sFor, sForget, sRet, sRetN, sAppend, sExtend, sNext, sBrk, sCont, sDrop, appv, isLst, gB, bv, gNp, npv, gOp, gUn, gVar, gC, gCB, gFz, fzv, gTru, tru, gAndT, gOrT, gNotT, gAnd, gOr, gNot, gIf, PL.gTup, gLst, gIsi, gIsi2, tyN_non, tyN_bl, tyN_int, tyN_str, tyN_tup, tyN_lst, tyN_tl, gSl, oNone, oSome, intv, aNil, aCons, iRange1, iRange2, rng1, rng2, iOf, itv, bLen, bAbs, bInt, bTuple, bList, lenT, pI, pAdd, pIx4, pIx, pDGet, dctAt, dat, look, tgName, forgets, retv, gCall, T.able, T.view, List.getElem?_cons_zero, List.getElem?_cons_succ, List.set_cons_zero, List.set_cons_succ, R.bind_ok, R.bindO_ok, List.length_cons, List.length_nil, dats, trees, lsd, fin, ables_map, views_map', ables_nil, views_nil, ables_cons, views_cons, filter_true', atI_c0, atI_c1, atI_c2, atI_nil, sz_0, sz_1, sz_2, sz_3, sz_4, sz_5, sz_6, sz_7, sz_8, sz_9, sz_10, sz_11, sz_12, sz_13, sz_14, sz_15, pEq_lit, pNe_lit, pIn_2, pIn_3, pIn_4, pNotIn_3, pNotIn_4, pEq_int, pNe_int, okD_lit, okD_int, okD_non, okD_bl, e2]
    refine ⟨fun k ob v hv hk => ?_, fun k ob v hv hk => ?_⟩
    · simp only [ph] at hk
      rcases m_sum.mp hv with ⟨x, hx, rfl⟩ | ⟨x, hx, rfl⟩
      · rw [run_tS_l]; exact (hd k ob x (by omega)).1
      · rw [run_tS_r]; exact (hd k ob x (by omega)).2
    · simp only [ph] at hk
      obtain ⟨k, rfl⟩ : ∃ k', k = k' + 1 := ⟨k - 1, by omega⟩
      have eb : ∀ v, bk (.turnS a b) v = run (.turnS a b) v := fun _ => by simp [bk, run]
      rw [eb, Fk_back, fnD_fin]
      simp only [List.map_cons, List.map_nil, List.replicate, List.cons_append, List.nil_append]
      rcases m_sum.mp hv with ⟨x, hx, rfl⟩ | ⟨x, hx, rfl⟩
      · have e := (hd k ob x (by omega)).1
        rw [run_tS_l]
        simp only [P.d, lf, rt] at e ⊢
        simp [m_back, sSeq, sIf, sAsg, sAsgT, sAug, sPar, sFor, sForget, sRet, sRetN, sAppend, sExtend, sNext, sBrk, sCont, sDrop, appv, isLst, gB, bv, gNp, npv, gOp, gUn, gVar, gC, gCB, gFz, fzv, gTru, tru, gAndT, gOrT, gNotT, gAnd, gOr, gNot, gIf, PL.gTup, gLst, gIsi, gIsi2, tyN_non, tyN_bl, tyN_int, tyN_str, tyN_tup, tyN_lst, tyN_tl, gSl, oNone, oSome, intv, aNil, aCons, iRange1, iRange2, rng1, rng2, iOf, itv, bLen, bAbs, bInt, bTuple, bList, lenT, pI, pAdd, pIx4, pIx, pDGet, dctAt, dat, look, tgName, forgets, retv, gCall, T.able, T.view, List.getElem?_cons_zero, List.getElem?_cons_succ, List.set_cons_zero, List.set_cons_succ, R.bind_ok, R.bindO_ok, List.length_cons, List.length_nil, dats, trees, lsd, fin, ables_map, views_map', ables_nil, views_nil, ables_cons, views_cons, filter_true', atI_c0, atI_c1, atI_c2, atI_nil, sz_0, sz_1, sz_2, sz_3, sz_4, sz_5, sz_6, sz_7, sz_8, sz_9, sz_10, sz_11, sz_12, sz_13, sz_14, sz_15, pEq_lit, pNe_lit, pIn_2, pIn_3, pIn_4, pNotIn_3, pNotIn_4, pEq_int, pNe_int, okD_lit, okD_int, okD_non, okD_bl, e]
      · have e := (hd k ob x (by omega)).2
        rw [run_tS_r]
        simp only [P.d, lf, rt] at e ⊢
        simp [m_back, sSeq, sIf, sAsg, sAsgT, sAug, sPar, sFor, sForget, sRet, sRetN, sAppend, sExtend, sNext, sBrk, sCont, sDrop, appv, isLst, gB, bv, gNp, npv, gOp, gUn, gVar, gC, gCB, gFz, fzv, gTru, tru, gAndT, gOrT, gNotT, gAnd, gOr, gNot, gIf, PL.gTup, gLst, gIsi, gIsi2, tyN_non, tyN_bl, tyN_int, tyN_str, tyN_tup, tyN_lst, tyN_tl, gSl, oNone, oSome, intv, aNil, aCons, iRange1, iRange2, rng1, rng2, iOf, itv, bLen, bAbs, bInt, bTuple, bList, lenT, pI, pAdd, pIx4, pIx, pDGet, dctAt, dat, look, tgName, forgets, retv, gCall, T.able, T.view, List.getElem?_cons_zero, List.getElem?_cons_succ, List.set_cons_zero, List.set_cons_succ, R.bind_ok, R.bindO_ok, List.length_cons, List.length_nil, dats, trees, lsd, fin, ables_map, views_map', ables_nil, views_nil, ables_cons, views_cons, filter_true', atI_c0, atI_c1, atI_c2, atI_nil, sz_0, sz_1, sz_2, sz_3, sz_4, sz_5, sz_6, sz_7, sz_8, sz_9, sz_10, sz_11, sz_12, sz_13, sz_14, sz_15, pEq_lit, pNe_lit, pIn_2, pIn_3, pIn_4, pNotIn_3, pNotIn_4, pEq_int, pNe_int, okD_lit, okD_int, okD_non, okD_bl, e]
  | .turnP a b, s, t, h => by
    cases h
    have hd : ∀ (k : Nat) (ob : List T) (x y : D), 0 < k → Fk k 5 [(P.turnP a b).d, pr x y] ob = .ok (.fz (pr y x)) ob := fun k ob x y hk => by
      obtain ⟨k, rfl⟩ : ∃ k', k = k' + 1 := ⟨k - 1, by omega⟩
      rw [Fk_done, fnD_fin]
      simp only [List.map_cons, List.map_nil, List.replicate, List.cons_append, List.nil_append]
      simp [m_done, P.d, pr, sSeq, sIf, sAsg, sAsgT, sAug, sPar, sFor, sForget, sRet, sRetN, sAppend, sExtend, sNext, sBrk, sCont, sDrop, appv, isLst, gB, bv, gNp, npv, gOp, gUn, gVar, gC, gCB, gFz, fzv, gTru, tru, gAndT, gOrT, gNotT, gAnd, gOr, gNot, gIf, PL.gTup, gLst, gIsi, gIsi2, tyN_non, tyN_bl, tyN_int, tyN_str, tyN_tup, tyN_lst, tyN_tl, gSl, oNone, oSome, intv, aNil, aCons, iRange1, iRange2, rng1, rng2, iOf, itv, bLen, bAbs, bInt, bTuple, bList, lenT, pI, pAdd, pIx4, pIx, pDGet, dctAt, dat, look, tgName, forgets, retv, gCall, T.able, T.view, List.getElem?_cons_zero, List.getElem?_cons_succ, List.set_cons_zero, List.set_cons_succ, R.bind_ok, R.bindO_ok, List.length_cons, List.length_nil, dats, trees, lsd, fin, ables_map, views_map', ables_nil, views_nil, ables_cons, views_cons, filter_true', atI_c0, atI_c1, atI_c2, atI_nil, sz_0, sz_1, sz_2, sz_3, sz_4, sz_5, sz_6, sz_7, sz_8, sz_9, sz_10, sz_11, sz_12, sz_13, sz_14, sz_15, pEq_lit, pNe_lit, pIn_2, pIn_3, pIn_4, pNotIn_3, pNotIn_4, pEq_int, pNe_int, okD_lit, okD_int, okD_non, okD_bl]
    refine ⟨fun k ob v hv hk => ?_, fun k ob v hv hk => ?_⟩
    · obtain ⟨x, hx, y, hy, rfl⟩ := m_pair.mp hv
      exact hd k ob x y (by omega)
    · obtain ⟨k, rfl⟩ : ∃ k', k = k' + 1 := ⟨k - 1, by omega⟩
      obtain ⟨x, hx, y, hy, rfl⟩ := m_pair.mp hv
      have e := hd k ob x y (by omega)
      have eb : bk (.turnP a b) (pr x y) = pr y x := rfl
      rw [eb, Fk_back, fnD_fin]
      simp only [List.map_cons, List.map_nil, List.replicate, List.cons_append, List.nil_append]
      simp only [P.d, pr] at e ⊢
      simp [m_back, sSeq, sIf, sAsg, sAsgT, sAug, sPar, sFor, sForget, sRet, sRetN, sAppend, sExtend, sNext, sBrk, sCont, sDrop, appv, isLst, gB, bv, gNp, npv, gOp, gUn, gVar, gC, gCB, gFz, fzv, gTru, tru, gAndT, gOrT, gNotT, gAnd, gOr, gNot, gIf, PL.gTup, gLst, gIsi, gIsi2, tyN_non, tyN_bl, tyN_int, tyN_str, tyN_tup, tyN_lst, tyN_tl, gSl, oNone, oSome, intv, aNil, aCons, iRange1, iRange2, rng1, rng2, iOf, itv, bLen, bAbs, bInt, bTuple, bList, lenT, pI, pAdd, pIx4, pIx, pDGet, dctAt, dat, look, tgName, forgets, retv, gCall, T.able, T.view, List.getElem?_cons_zero, List.getElem?_cons_succ, List.set_cons_zero, List.set_cons_succ, R.bind_ok, R.bindO_ok, List.length_cons, List.length_nil, dats, trees, lsd, fin, ables_map, views_map', ables_nil, views_nil, ables_cons, views_cons, filter_true', atI_c0, atI_c1, atI_c2, atI_nil, sz_0, sz_1, sz_2, sz_3, sz_4, sz_5, sz_6, sz_7, sz_8, sz_9, sz_10, sz_11, sz_12, sz_13, sz_14, sz_15, pEq_lit, pNe_lit, pIn_2, pIn_3, pIn_4, pNotIn_3, pNotIn_4, pEq_int, pNe_int, okD_lit, okD_int, okD_non, okD_bl, e]
  | .spread a b c, s, t, h => by
    cases h
    refine ⟨fun k ob v hv hk => ?_, fun k ob v hv hk => ?_⟩
    · obtain ⟨k, rfl⟩ : ∃ k', k = k' + 1 := ⟨k - 1, by omega⟩
      obtain ⟨x, hx, y, hy, rfl⟩ := m_pair.mp hv
      rw [Fk_done, fnD_fin]
      simp only [List.map_cons, List.map_nil, List.replicate, List.cons_append, List.nil_append]
      rcases m_sum.mp hx with ⟨z, hz, rfl⟩ | ⟨z, hz, rfl⟩ <;> simp [m_done, P.d, run, pr, lf, rt, at0, at1, sSeq, sIf, sAsg, sAsgT, sAug, sPar, sFor, sForget, sRet, sRetN, sAppend, sExtend, sNext, sBrk, sCont, sDrop, appv, isLst, gB, bv, gNp, npv, gOp, gUn, gVar, gC, gCB, gFz, fzv, gTru, tru, gAndT, gOrT, gNotT, gAnd, gOr, gNot, gIf, PL.gTup, gLst, gIsi, gIsi2, tyN_non, tyN_bl, tyN_int, tyN_str, tyN_tup, tyN_lst, tyN_tl, gSl, oNone, oSome, intv, aNil, aCons, iRange1, iRange2, rng1, rng2, iOf, itv, bLen, bAbs, bInt, bTuple, bList, lenT, pI, pAdd, pIx4, pIx, pDGet, dctAt, dat, look, tgName, forgets, retv, gCall, T.able, T.view, List.getElem?_cons_zero, List.getElem?_cons_succ, List.set_cons_zero, List.set_cons_succ, R.bind_ok, R.bindO_ok, List.length_cons, List.length_nil, dats, trees, lsd, fin, ables_map, views_map', ables_nil, views_nil, ables_cons, views_cons, filter_true', atI_c0, atI_c1, atI_c2, atI_nil, sz_0, sz_1, sz_2, sz_3, sz_4, sz_5, sz_6, sz_7, sz_8, sz_9, sz_10, sz_11, sz_12, sz_13, sz_14, sz_15, pEq_lit, pNe_lit, pIn_2, pIn_3, pIn_4, pNotIn_3, pNotIn_4, pEq_int, pNe_int, okD_lit, okD_int, okD_non, okD_bl]
    · obtain ⟨k, rfl⟩ : ∃ k', k = k' + 1 := ⟨k - 1, by omega⟩
      rw [Fk_back, fnD_fin]
      simp only [List.map_cons, List.map_nil, List.replicate, List.cons_append, List.nil_append]
      rcases m_sum.mp hv with ⟨x, hx, rfl⟩ | ⟨x, hx, rfl⟩ <;> obtain ⟨z, hz, y, hy, rfl⟩ := m_pair.mp hx <;> simp [m_back, P.d, bk, pr, lf, rt, at0, at1, sSeq, sIf, sAsg, sAsgT, sAug, sPar, sFor, sForget, sRet, sRetN, sAppend, sExtend, sNext, sBrk, sCont, sDrop, appv, isLst, gB, bv, gNp, npv, gOp, gUn, gVar, gC, gCB, gFz, fzv, gTru, tru, gAndT, gOrT, gNotT, gAnd, gOr, gNot, gIf, PL.gTup, gLst, gIsi, gIsi2, tyN_non, tyN_bl, tyN_int, tyN_str, tyN_tup, tyN_lst, tyN_tl, gSl, oNone, oSome, intv, aNil, aCons, iRange1, iRange2, rng1, rng2, iOf, itv, bLen, bAbs, bInt, bTuple, bList, lenT, pI, pAdd, pIx4, pIx, pDGet, dctAt, dat, look, tgName, forgets, retv, gCall, T.able, T.view, List.getElem?_cons_zero, List.getElem?_cons_succ, List.set_cons_zero, List.set_cons_succ, R.bind_ok, R.bindO_ok, List.length_cons, List.length_nil, dats, trees, lsd, fin, ables_map, views_map', ables_nil, views_nil, ables_cons, views_cons, filter_true', atI_c0, atI_c1, atI_c2, atI_nil, sz_0, sz_1, sz_2, sz_3, sz_4, sz_5, sz_6, sz_7, sz_8, sz_9, sz_10, sz_11, sz_12, sz_13, sz_14, sz_15, pEq_lit, pNe_lit, pIn_2, pIn_3, pIn_4, pNotIn_3, pNotIn_4, pEq_int, pNe_int, okD_lit, okD_int, okD_non, okD_bl]
  | .shiftP a b c, s, t, h => by
    cases h
    refine ⟨fun k ob v hv hk => ?_, fun k ob v hv hk => ?_⟩
    · obtain ⟨k, rfl⟩ : ∃ k', k = k' + 1 := ⟨k - 1, by omega⟩
      obtain ⟨x, hx, y, hy, rfl⟩ := m_pair.mp hv
      obtain ⟨z, hz, u, hu, rfl⟩ := m_pair.mp hx
      rw [Fk_done, fnD_fin]
      simp only [List.map_cons, List.map_nil, List.replicate, List.cons_append, List.nil_append]
      simp [m_done, P.d, run, pr, at0, at1, sSeq, sIf, sAsg, sAsgT, sAug, sPar, sFor, sForget, sRet, sRetN, sAppend, sExtend, sNext, sBrk, sCont, sDrop, appv, isLst, gB, bv, gNp, npv, gOp, gUn, gVar, gC, gCB, gFz, fzv, gTru, tru, gAndT, gOrT, gNotT, gAnd, gOr, gNot, gIf, PL.gTup, gLst, gIsi, gIsi2, tyN_non, tyN_bl, tyN_int, tyN_str, tyN_tup, tyN_lst, tyN_tl, gSl, oNone, oSome, intv, aNil, aCons, iRange1, iRange2, rng1, rng2, iOf, itv, bLen, bAbs, bInt, bTuple, bList, lenT, pI, pAdd, pIx4, pIx, pDGet, dctAt, dat, look, tgName, forgets, retv, gCall, T.able, T.view, List.getElem?_cons_zero, List.getElem?_cons_succ, List.set_cons_zero, List.set_cons_succ, R.bind_ok, R.bindO_ok, List.length_cons, List.length_nil, dats, trees, lsd, fin, ables_map, views_map', ables_nil, views_nil, ables_cons, views_cons, filter_true', atI_c0, atI_c1, atI_c2, atI_nil, sz_0, sz_1, sz_2, sz_3, sz_4, sz_5, sz_6, sz_7, sz_8, sz_9, sz_10, sz_11, sz_12, sz_13, sz_14, sz_15, pEq_lit, pNe_lit, pIn_2, pIn_3, pIn_4, pNotIn_3, pNotIn_4, pEq_int, pNe_int, okD_lit, okD_int, okD_non, okD_bl]
    · obtain ⟨k, rfl⟩ : ∃ k', k = k' + 1 := ⟨k - 1, by omega⟩
      obtain ⟨x, hx, y, hy, rfl⟩ := m_pair.mp hv
      obtain ⟨z, hz, u, hu, rfl⟩ := m_pair.mp hy
      rw [Fk_back, fnD_fin]
      simp only [List.map_cons, List.map_nil, List.replicate, List.cons_append, List.nil_append]
      simp [m_back, P.d, bk, pr, at0, at1, sSeq, sIf, sAsg, sAsgT, sAug, sPar, sFor, sForget, sRet, sRetN, sAppend, sExtend, sNext, sBrk, sCont, sDrop, appv, isLst, gB, bv, gNp, npv, gOp, gUn, gVar, gC, gCB, gFz, fzv, gTru, tru, gAndT, gOrT, gNotT, gAnd, gOr, gNot, gIf, PL.gTup, gLst, gIsi, gIsi2, tyN_non, tyN_bl, tyN_int, tyN_str, tyN_tup, tyN_lst, tyN_tl, gSl, oNone, oSome, intv, aNil, aCons, iRange1, iRange2, rng1, rng2, iOf, itv, bLen, bAbs, bInt, bTuple, bList, lenT, pI, pAdd, pIx4, pIx, pDGet, dctAt, dat, look, tgName, forgets, retv, gCall, T.able, T.view, List.getElem?_cons_zero, List.getElem?_cons_succ, List.set_cons_zero, List.set_cons_succ, R.bind_ok, R.bindO_ok, List.length_cons, List.length_nil, dats, trees, lsd, fin, ables_map, views_map', ables_nil, views_nil, ables_cons, views_cons, filter_true', atI_c0, atI_c1, atI_c2, atI_nil, sz_0, sz_1, sz_2, sz_3, sz_4, sz_5, sz_6, sz_7, sz_8, sz_9, sz_10, sz_11, sz_12, sz_13, sz_14, sz_15, pEq_lit, pNe_lit, pIn_2, pIn_3, pIn_4, pNotIn_3, pNotIn_4, pEq_int, pNe_int, okD_lit, okD_int, okD_non, okD_bl]
  | .shiftS a b c, s, t, h => by
    cases h
    refine ⟨fun k ob v hv hk => ?_, fun k ob v hv hk => ?_⟩
    · obtain ⟨k, rfl⟩ : ∃ k', k = k' + 1 := ⟨k - 1, by omega⟩
      rw [Fk_done, fnD_fin]
      simp only [List.map_cons, List.map_nil, List.replicate, List.cons_append, List.nil_append]
      rcases m_sum.mp hv with ⟨x, hx, rfl⟩ | ⟨x, hx, rfl⟩
      · rcases m_sum.mp hx with ⟨z, hz, rfl⟩ | ⟨z, hz, rfl⟩
        · rw [run_sS_ll]; simp [m_done, P.d, lf, rt, sSeq, sIf, sAsg, sAsgT, sAug, sPar, sFor, sForget, sRet, sRetN, sAppend, sExtend, sNext, sBrk, sCont, sDrop, appv, isLst, gB, bv, gNp, npv, gOp, gUn, gVar, gC, gCB, gFz, fzv, gTru, tru, gAndT, gOrT, gNotT, gAnd, gOr, gNot, gIf, PL.gTup, gLst, gIsi, gIsi2, tyN_non, tyN_bl, tyN_int, tyN_str, tyN_tup, tyN_lst, tyN_tl, gSl, oNone, oSome, intv, aNil, aCons, iRange1, iRange2, rng1, rng2, iOf, itv, bLen, bAbs, bInt, bTuple, bList, lenT, pI, pAdd, pIx4, pIx, pDGet, dctAt, dat, look, tgName, forgets, retv, gCall, T.able, T.view, List.getElem?_cons_zero, List.getElem?_cons_succ, List.set_cons_zero, List.set_cons_succ, R.bind_ok, R.bindO_ok, List.length_cons, List.length_nil, dats, trees, lsd, fin, ables_map, views_map', ables_nil, views_nil, ables_cons, views_cons, filter_true', atI_c0, atI_c1, atI_c2, atI_nil, sz_0, sz_1, sz_2, sz_3, sz_4, sz_5, sz_6, sz_7, sz_8, sz_9, sz_10, sz_11, sz_12, sz_13, sz_14, sz_15, pEq_lit, pNe_lit, pIn_2, pIn_3, pIn_4, pNotIn_3, pNotIn_4, pEq_int, pNe_int, okD_lit, okD_int, okD_non, okD_bl]
        · rw [run_sS_lr]; simp [m_done, P.d, lf, rt, sSeq, sIf, sAsg, sAsgT, sAug, sPar, sFor, sForget, sRet, sRetN, sAppend, sExtend, sNext, sBrk, sCont, sDrop, appv, isLst, gB, bv, gNp, npv, gOp, gUn, gVar, gC, gCB, gFz, fzv, gTru, tru, gAndT, gOrT, gNotT, gAnd, gOr, gNot, gIf, PL.gTup, gLst, gIsi, gIsi2, tyN_non, tyN_bl, tyN_int, tyN_str, tyN_tup, tyN_lst, tyN_tl, gSl, oNone, oSome, intv, aNil, aCons, iRange1, iRange2, rng1, rng2, iOf, itv, bLen, bAbs, bInt, bTuple, bList, lenT, pI, pAdd, pIx4, pIx, pDGet, dctAt, dat, look, tgName, forgets, retv, gCall, T.able, T.view, List.getElem?_cons_zero, List.getElem?_cons_succ, List.set_cons_zero, List.set_cons_succ, R.bind_ok, R.bindO_ok, List.length_cons, List.length_nil, dats, trees, lsd, fin, ables_map, views_map', ables_nil, views_nil, ables_cons, views_cons, filter_true', atI_c0, atI_c1, atI_c2, atI_nil, sz_0, sz_1, sz_2, sz_3, sz_4, sz_5, sz_6, sz_7, sz_8, sz_9, sz_10, sz_11, sz_12, sz_13, sz_14, sz_15, pEq_lit, pNe_lit, pIn_2, pIn_3, pIn_4, pNotIn_3, pNotIn_4, pEq_int, pNe_int, okD_lit, okD_int, okD_non, okD_bl]
      · rw [run_sS_r]; simp [m_done, P.d, lf, rt, sSeq, sIf, sAsg, sAsgT, sAug, sPar, sFor, sForget, sRet, sRetN, sAppend, sExtend, sNext, sBrk, sCont, sDrop, appv, isLst, gB, bv, gNp, npv, gOp, gUn, gVar, gC, gCB, gFz, fzv, gTru, tru, gAndT, gOrT, gNotT, gAnd, gOr, gNot, gIf, PL.gTup, gLst, gIsi, gIsi2, tyN_non, tyN_bl, tyN_int, tyN_str, tyN_tup, tyN_lst, tyN_tl, gSl, oNone, oSome, intv, aNil, aCons, iRange1, iRange2, rng1, rng2, iOf, itv, bLen, bAbs, bInt, bTuple, bList, lenT, pI, pAdd, pIx4, pIx, pDGet, dctAt, dat, look, tgName, forgets, retv, gCall, T.able, T.view, List.getElem?_cons_zero, List.getElem?_cons_succ, List.set_cons_zero, List.set_cons_succ, R.bind_ok, R.bindO_ok, List.length_cons, List.length_nil, dats, trees, lsd, fin, ables_map, views_map', ables_nil, views_nil, ables_cons, views_cons, filter_true', atI_c0, atI_c1, atI_c2, atI_nil, sz_0, sz_1, sz_2, sz_3, sz_4, sz_5, sz_6, sz_7, sz_8, sz_9, sz_10, sz_11, sz_12, sz_13, sz_14, sz_15, pEq_lit, pNe_lit, pIn_2, pIn_3, pIn_4, pNotIn_3, pNotIn_4, pEq_int, pNe_int, okD_lit, okD_int, okD_non, okD_bl]
    · obtain ⟨k, rfl⟩ : ∃ k', k = k' + 1 := ⟨k - 1, by omega⟩
      rw [Fk_back, fnD_fin]
      simp only [List.map_cons, List.map_nil, List.replicate, List.cons_append, List.nil_append]
      rcases m_sum.mp hv with ⟨x, hx, rfl⟩ | ⟨x, hx, rfl⟩
      · rw [bk_sS_l]; simp [m_back, P.d, lf, rt, sSeq, sIf, sAsg, sAsgT, sAug, sPar, sFor, sForget, sRet, sRetN, sAppend, sExtend, sNext, sBrk, sCont, sDrop, appv, isLst, gB, bv, gNp, npv, gOp, gUn, gVar, gC, gCB, gFz, fzv, gTru, tru, gAndT, gOrT, gNotT, gAnd, gOr, gNot, gIf, PL.gTup, gLst, gIsi, gIsi2, tyN_non, tyN_bl, tyN_int, tyN_str, tyN_tup, tyN_lst, tyN_tl, gSl, oNone, oSome, intv, aNil, aCons, iRange1, iRange2, rng1, rng2, iOf, itv, bLen, bAbs, bInt, bTuple, bList, lenT, pI, pAdd, pIx4, pIx, pDGet, dctAt, dat, look, tgName, forgets, retv, gCall, T.able, T.view, List.getElem?_cons_zero, List.getElem?_cons_succ, List.set_cons_zero, List.set_cons_succ, R.bind_ok, R.bindO_ok, List.length_cons, List.length_nil, dats, trees, lsd, fin, ables_map, views_map', ables_nil, views_nil, ables_cons, views_cons, filter_true', atI_c0, atI_c1, atI_c2, atI_nil, sz_0, sz_1, sz_2, sz_3, sz_4, sz_5, sz_6, sz_7, sz_8, sz_9, sz_10, sz_11, sz_12, sz_13, sz_14, sz_15, pEq_lit, pNe_lit, pIn_2, pIn_3, pIn_4, pNotIn_3, pNotIn_4, pEq_int, pNe_int, okD_lit, okD_int, okD_non, okD_bl]
      · rcases m_sum.mp hx with ⟨z, hz, rfl⟩ | ⟨z, hz, rfl⟩
        · rw [bk_sS_rl]; simp [m_back, P.d, lf, rt, sSeq, sIf, sAsg, sAsgT, sAug, sPar, sFor, sForget, sRet, sRetN, sAppend, sExtend, sNext, sBrk, sCont, sDrop, appv, isLst, gB, bv, gNp, npv, gOp, gUn, gVar, gC, gCB, gFz, fzv, gTru, tru, gAndT, gOrT, gNotT, gAnd, gOr, gNot, gIf, PL.gTup, gLst, gIsi, gIsi2, tyN_non, tyN_bl, tyN_int, tyN_str, tyN_tup, tyN_lst, tyN_tl, gSl, oNone, oSome, intv, aNil, aCons, iRange1, iRange2, rng1, rng2, iOf, itv, bLen, bAbs, bInt, bTuple, bList, lenT, pI, pAdd, pIx4, pIx, pDGet, dctAt, dat, look, tgName, forgets, retv, gCall, T.able, T.view, List.getElem?_cons_zero, List.getElem?_cons_succ, List.set_cons_zero, List.set_cons_succ, R.bind_ok, R.bindO_ok, List.length_cons, List.length_nil, dats, trees, lsd, fin, ables_map, views_map', ables_nil, views_nil, ables_cons, views_cons, filter_true', atI_c0, atI_c1, atI_c2, atI_nil, sz_0, sz_1, sz_2, sz_3, sz_4, sz_5, sz_6, sz_7, sz_8, sz_9, sz_10, sz_11, sz_12, sz_13, sz_14, sz_15, pEq_lit, pNe_lit, pIn_2, pIn_3, pIn_4, pNotIn_3, pNotIn_4, pEq_int, pNe_int, okD_lit, okD_int, okD_non, okD_bl]
        · rw [bk_sS_rr]; simp [m_back, P.d, lf, rt, sSeq, sIf, sAsg, sAsgT, sAug, sPar, sFor, sForget, sRet, sRetN, sAppend, sExtend, sNext, sBrk, sCont, sDrop, appv, isLst, gB, bv, gNp, npv, gOp, gUn, gVar, gC, gCB, gFz, fzv, gTru, tru, gAndT, gOrT, gNotT, gAnd, gOr, gNot, gIf, PL.gTup, gLst, gIsi, gIsi2, tyN_non, tyN_bl, tyN_int, tyN_str, tyN_tup, tyN_lst, tyN_tl, gSl, oNone, oSome, intv, aNil, aCons, iRange1, iRange2, rng1, rng2, iOf, itv, bLen, bAbs, bInt, bTuple, bList, lenT, pI, pAdd, pIx4, pIx, pDGet, dctAt, dat, look, tgName, forgets, retv, gCall, T.able, T.view, List.getElem?_cons_zero, List.getElem?_cons_succ, List.set_cons_zero, List.set_cons_succ, R.bind_ok, R.bindO_ok, List.length_cons, List.length_nil, dats, trees, lsd, fin, ables_map, views_map', ables_nil, views_nil, ables_cons, views_cons, filter_true', atI_c0, atI_c1, atI_c2, atI_nil, sz_0, sz_1, sz_2, sz_3, sz_4, sz_5, sz_6, sz_7, sz_8, sz_9, sz_10, sz_11, sz_12, sz_13, sz_14, sz_15, pEq_lit, pNe_lit, pIn_2, pIn_3, pIn_4, pNotIn_3, pNotIn_4, pEq_int, pNe_int, okD_lit, okD_int, okD_non, okD_bl]
  | .thn p q, s, t, h => by
    simp only [typ] at h
    split at h
    · rename_i a b c e h1 h2
      split at h
      · rename_i hbc
        subst hbc
        cases h
        obtain ⟨d1, b1⟩ := done_ok p _ _ h1
        obtain ⟨d2, b2⟩ := done_ok q _ _ h2
        obtain ⟨i1, i2⟩ := iso p _ _ h1
        obtain ⟨i3, i4⟩ := iso q _ _ h2
        refine ⟨fun k ob v hv hk => ?_, fun k ob v hv hk => ?_⟩
        · simp only [ph] at hk
          obtain ⟨k, rfl⟩ : ∃ k', k = k' + 1 := ⟨k - 1, by omega⟩
          have e1 := d1 k ob v hv (by omega)
          have e2 := d2 k ob _ (i1 v hv).1 (by omega)
          rw [Fk_done, fnD_fin]
          simp only [List.map_cons, List.map_nil, List.replicate, List.cons_append, List.nil_append]
          simp [m_done, P.d, run, sSeq, sIf, sAsg, sAsgT, sAug, sPar, sFor, sForget, sRet, sRetN, sAppend, sExtend, sNext, sBrk, sCont, sDrop, appv, isLst, gB, bv, gNp, npv, gOp, gUn, gVar, gC, gCB, gFz, fzv, gTru, tru, gAndT, gOrT, gNotT, gAnd, gOr, gNot, gIf, PL.gTup, gLst, gIsi, gIsi2, tyN_non, tyN_bl, tyN_int, tyN_str, tyN_tup, tyN_lst, tyN_tl, gSl, oNone, oSome, intv, aNil, aCons, iRange1, iRange2, rng1, rng2, iOf, itv, bLen, bAbs, bInt, bTuple, bList, lenT, pI, pAdd, pIx4, pIx, pDGet, dctAt, dat, look, tgName, forgets, retv, gCall, T.able, T.view, List.getElem?_cons_zero, List.getElem?_cons_succ, List.set_cons_zero, List.set_cons_succ, R.bind_ok, R.bindO_ok, List.length_cons, List.length_nil, dats, trees, lsd, fin, ables_map, views_map', ables_nil, views_nil, ables_cons, views_cons, filter_true', atI_c0, atI_c1, atI_c2, atI_nil, sz_0, sz_1, sz_2, sz_3, sz_4, sz_5, sz_6, sz_7, sz_8, sz_9, sz_10, sz_11, sz_12, sz_13, sz_14, sz_15, pEq_lit, pNe_lit, pIn_2, pIn_3, pIn_4, pNotIn_3, pNotIn_4, pEq_int, pNe_int, okD_lit, okD_int, okD_non, okD_bl, e1, e2]
        · simp only [ph] at hk
          obtain ⟨k, rfl⟩ : ∃ k', k = k' + 1 := ⟨k - 1, by omega⟩
          have e1 := b2 k ob v hv (by omega)
          have e2 := b1 k ob _ (i4 v hv).1 (by omega)
          rw [Fk_back, fnD_fin]
          simp only [List.map_cons, List.map_nil, List.replicate, List.cons_append, List.nil_append]
          simp [m_back, P.d, bk, sSeq, sIf, sAsg, sAsgT, sAug, sPar, sFor, sForget, sRet, sRetN, sAppend, sExtend, sNext, sBrk, sCont, sDrop, appv, isLst, gB, bv, gNp, npv, gOp, gUn, gVar, gC, gCB, gFz, fzv, gTru, tru, gAndT, gOrT, gNotT, gAnd, gOr, gNot, gIf, PL.gTup, gLst, gIsi, gIsi2, tyN_non, tyN_bl, tyN_int, tyN_str, tyN_tup, tyN_lst, tyN_tl, gSl, oNone, oSome, intv, aNil, aCons, iRange1, iRange2, rng1, rng2, iOf, itv, bLen, bAbs, bInt, bTuple, bList, lenT, pI, pAdd, pIx4, pIx, pDGet, dctAt, dat, look, tgName, forgets, retv, gCall, T.able, T.view, List.getElem?_cons_zero, List.getElem?_cons_succ, List.set_cons_zero, List.set_cons_succ, R.bind_ok, R.bindO_ok, List.length_cons, List.length_nil, dats, trees, lsd, fin, ables_map, views_map', ables_nil, views_nil, ables_cons, views_cons, filter_true', atI_c0, atI_c1, atI_c2, atI_nil, sz_0, sz_1, sz_2, sz_3, sz_4, sz_5, sz_6, sz_7, sz_8, sz_9, sz_10, sz_11, sz_12, sz_13, sz_14, sz_15, pEq_lit, pNe_lit, pIn_2, pIn_3, pIn_4, pNotIn_3, pNotIn_4, pEq_int, pNe_int, okD_lit, okD_int, okD_non, okD_bl, e1, e2]
      · cases h
    · cases h
  | .eth p q, s, t, h => by
    simp only [typ] at h
    split at h
    · rename_i a b c e h1 h2
      cases h
      obtain ⟨d1, b1⟩ := done_ok p _ _ h1
      obtain ⟨d2, b2⟩ := done_ok q _ _ h2
      refine ⟨fun k ob v hv hk => ?_, fun k ob v hv hk => ?_⟩ <;> simp only [ph] at hk <;> obtain ⟨k, rfl⟩ : ∃ k', k = k' + 1 := ⟨k - 1, by omega⟩
      · rw [Fk_done, fnD_fin]
        simp only [List.map_cons, List.map_nil, List.replicate, List.cons_append, List.nil_append]
        rcases m_sum.mp hv with ⟨x, hx, rfl⟩ | ⟨x, hx, rfl⟩
        · have e := d1 k ob x hx (by omega)
          rw [run_e_l]; simp [m_done, P.d, lf, rt, sSeq, sIf, sAsg, sAsgT, sAug, sPar, sFor, sForget, sRet, sRetN, sAppend, sExtend, sNext, sBrk, sCont, sDrop, appv, isLst, gB, bv, gNp, npv, gOp, gUn, gVar, gC, gCB, gFz, fzv, gTru, tru, gAndT, gOrT, gNotT, gAnd, gOr, gNot, gIf, PL.gTup, gLst, gIsi, gIsi2, tyN_non, tyN_bl, tyN_int, tyN_str, tyN_tup, tyN_lst, tyN_tl, gSl, oNone, oSome, intv, aNil, aCons, iRange1, iRange2, rng1, rng2, iOf, itv, bLen, bAbs, bInt, bTuple, bList, lenT, pI, pAdd, pIx4, pIx, pDGet, dctAt, dat, look, tgName, forgets, retv, gCall, T.able, T.view, List.getElem?_cons_zero, List.getElem?_cons_succ, List.set_cons_zero, List.set_cons_succ, R.bind_ok, R.bindO_ok, List.length_cons, List.length_nil, dats, trees, lsd, fin, ables_map, views_map', ables_nil, views_nil, ables_cons, views_cons, filter_true', atI_c0, atI_c1, atI_c2, atI_nil, sz_0, sz_1, sz_2, sz_3, sz_4, sz_5, sz_6, sz_7, sz_8, sz_9, sz_10, sz_11, sz_12, sz_13, sz_14, sz_15, pEq_lit, pNe_lit, pIn_2, pIn_3, pIn_4, pNotIn_3, pNotIn_4, pEq_int, pNe_int, okD_lit, okD_int, okD_non, okD_bl, e]
        · have e := d2 k ob x hx (by omega)
          rw [run_e_r]; simp [m_done, P.d, lf, rt, sSeq, sIf, sAsg, sAsgT, sAug, sPar, sFor, sForget, sRet, sRetN, sAppend, sExtend, sNext, sBrk, sCont, sDrop, appv, isLst, gB, bv, gNp, npv, gOp, gUn, gVar, gC, gCB, gFz, fzv, gTru, tru, gAndT, gOrT, gNotT, gAnd, gOr, gNot, gIf, PL.gTup, gLst, gIsi, gIsi2, tyN_non, tyN_bl, tyN_int, tyN_str, tyN_tup, tyN_lst, tyN_tl, gSl, oNone, oSome, intv, aNil, aCons, iRange1, iRange2, rng1, rng2, iOf, itv, bLen, bAbs, bInt, bTuple, bList, lenT, pI, pAdd, pIx4, pIx, pDGet, dctAt, dat, look, tgName, forgets, retv, gCall, T.able, T.view, List.getElem?_cons_zero, List.getElem?_cons_succ, List.set_cons_zero, List.set_cons_succ, R.bind_ok, R.bindO_ok, List.length_cons, List.length_nil, dats, trees, lsd, fin, ables_map, views_map', ables_nil, views_nil, ables_cons, views_cons, filter_true', atI_c0, atI_c1, atI_c2, atI_nil, sz_0, sz_1, sz_2, sz_3, sz_4, sz_5, sz_6, sz_7, sz_8, sz_9, sz_10, sz_11, sz_12, sz_13, sz_14, sz_15, pEq_lit, pNe_lit, pIn_2, pIn_3, pIn_4, pNotIn_3, pNotIn_4, pEq_int, pNe_int, okD_lit, okD_int, okD_non, okD_bl, e]
      · rw [Fk_back, fnD_fin]
        simp only [List.map_cons, List.map_nil, List.replicate, List.cons_append, List.nil_append]
        rcases m_sum.mp hv with ⟨x, hx, rfl⟩ | ⟨x, hx, rfl⟩
        · have e := b1 k ob x hx (by omega)
          rw [bk_e_l]; simp [m_back, P.d, lf, rt, sSeq, sIf, sAsg, sAsgT, sAug, sPar, sFor, sForget, sRet, sRetN, sAppend, sExtend, sNext, sBrk, sCont, sDrop, appv, isLst, gB, bv, gNp, npv, gOp, gUn, gVar, gC, gCB, gFz, fzv, gTru, tru, gAndT, gOrT, gNotT, gAnd, gOr, gNot, gIf, PL.gTup, gLst, gIsi, gIsi2, tyN_non, tyN_bl, tyN_int, tyN_str, tyN_tup, tyN_lst, tyN_tl, gSl, oNone, oSome, intv, aNil, aCons, iRange1, iRange2, rng1, rng2, iOf, itv, bLen, bAbs, bInt, bTuple, bList, lenT, pI, pAdd, pIx4, pIx, pDGet, dctAt, dat, look, tgName, forgets, retv, gCall, T.able, T.view, List.getElem?_cons_zero, List.getElem?_cons_succ, List.set_cons_zero, List.set_cons_succ, R.bind_ok, R.bindO_ok, List.length_cons, List.length_nil, dats, trees, lsd, fin, ables_map, views_map', ables_nil, views_nil, ables_cons, views_cons, filter_true', atI_c0, atI_c1, atI_c2, atI_nil, sz_0, sz_1, sz_2, sz_3, sz_4, sz_5, sz_6, sz_7, sz_8, sz_9, sz_10, sz_11, sz_12, sz_13, sz_14, sz_15, pEq_lit, pNe_lit, pIn_2, pIn_3, pIn_4, pNotIn_3, pNotIn_4, pEq_int, pNe_int, okD_lit, okD_int, okD_non, okD_bl, e]
        · have e := b2 k ob x hx (by omega)
          rw [bk_e_r]; simp [m_back, P.d, lf, rt, sSeq, sIf, sAsg, sAsgT, sAug, sPar, sFor, sForget, sRet, sRetN, sAppend, sExtend, sNext, sBrk, sCont, sDrop, appv, isLst, gB, bv, gNp, npv, gOp, gUn, gVar, gC, gCB, gFz, fzv, gTru, tru, gAndT, gOrT, gNotT, gAnd, gOr, gNot, gIf, PL.gTup, gLst, gIsi, gIsi2, tyN_non, tyN_bl, tyN_int, tyN_str, tyN_tup, tyN_lst, tyN_tl, gSl, oNone, oSome, intv, aNil, aCons, iRange1, iRange2, rng1, rng2, iOf, itv, bLen, bAbs, bInt, bTuple, bList, lenT, pI, pAdd, pIx4, pIx, pDGet, dctAt, dat, look, tgName, forgets, retv, gCall, T.able, T.view, List.getElem?_cons_zero, List.getElem?_cons_succ, List.set_cons_zero, List.set_cons_succ, R.bind_ok, R.bindO_ok, List.length_cons, List.length_nil, dats, trees, lsd, fin, ables_map, views_map', ables_nil, views_nil, ables_cons, views_cons, filter_true', atI_c0, atI_c1, atI_c2, atI_nil, sz_0, sz_1, sz_2, sz_3, sz_4, sz_5, sz_6, sz_7, sz_8, sz_9, sz_10, sz_11, sz_12, sz_13, sz_14, sz_15, pEq_lit, pNe_lit, pIn_2, pIn_3, pIn_4, pNotIn_3, pNotIn_4, pEq_int, pNe_int, okD_lit, okD_int, okD_non, okD_bl, e]
    · cases h
  | .bth p q, s, t, h => by
    simp only [typ] at h
    split at h
    · rename_i a b c e h1 h2
      cases h
      obtain ⟨d1, b1⟩ := done_ok p _ _ h1
      obtain ⟨d2, b2⟩ := done_ok q _ _ h2
      refine ⟨fun k ob v hv hk => ?_, fun k ob v hv hk => ?_⟩ <;> simp only [ph] at hk <;> obtain ⟨k, rfl⟩ : ∃ k', k = k' + 1 := ⟨k - 1, by omega⟩ <;> obtain ⟨x, hx, y, hy, rfl⟩ := m_pair.mp hv
      · have e1 := d1 k ob x hx (by omega)
        have e2 := d2 k ob y hy (by omega)
        rw [Fk_done, fnD_fin]
        simp only [List.map_cons, List.map_nil, List.replicate, List.cons_append, List.nil_append]
        simp [m_done, P.d, run, pr, at0, at1, sSeq, sIf, sAsg, sAsgT, sAug, sPar, sFor, sForget, sRet, sRetN, sAppend, sExtend, sNext, sBrk, sCont, sDrop, appv, isLst, gB, bv, gNp, npv, gOp, gUn, gVar, gC, gCB, gFz, fzv, gTru, tru, gAndT, gOrT, gNotT, gAnd, gOr, gNot, gIf, PL.gTup, gLst, gIsi, gIsi2, tyN_non, tyN_bl, tyN_int, tyN_str, tyN_tup, tyN_lst, tyN_tl, gSl, oNone, oSome, intv, aNil, aCons, iRange1, iRange2, rng1, rng2, iOf, itv, bLen, bAbs, bInt, bTuple, bList, lenT, pI, pAdd, pIx4, pIx, pDGet, dctAt, dat, look, tgName, forgets, retv, gCall, T.able, T.view, List.getElem?_cons_zero, List.getElem?_cons_succ, List.set_cons_zero, List.set_cons_succ, R.bind_ok, R.bindO_ok, List.length_cons, List.length_nil, dats, trees, lsd, fin, ables_map, views_map', ables_nil, views_nil, ables_cons, views_cons, filter_true', atI_c0, atI_c1, atI_c2, atI_nil, sz_0, sz_1, sz_2, sz_3, sz_4, sz_5, sz_6, sz_7, sz_8, sz_9, sz_10, sz_11, sz_12, sz_13, sz_14, sz_15, pEq_lit, pNe_lit, pIn_2, pIn_3, pIn_4, pNotIn_3, pNotIn_4, pEq_int, pNe_int, okD_lit, okD_int, okD_non, okD_bl, e1, e2]
      · have e1 := b1 k ob x hx (by omega)
        have e2 := b2 k ob y hy (by omega)
        rw [Fk_back, fnD_fin]
        simp only [List.map_cons, List.map_nil, List.replicate, List.cons_append, List.nil_append]
        simp [m_back, P.d, bk, pr, at0, at1, sSeq, sIf, sAsg, sAsgT, sAug, sPar, sFor, sForget, sRet, sRetN, sAppend, sExtend, sNext, sBrk, sCont, sDrop, appv, isLst, gB, bv, gNp, npv, gOp, gUn, gVar, gC, gCB, gFz, fzv, gTru, tru, gAndT, gOrT, gNotT, gAnd, gOr, gNot, gIf, PL.gTup, gLst, gIsi, gIsi2, tyN_non, tyN_bl, tyN_int, tyN_str, tyN_tup, tyN_lst, tyN_tl, gSl, oNone, oSome, intv, aNil, aCons, iRange1, iRange2, rng1, rng2, iOf, itv, bLen, bAbs, bInt, bTuple, bList, lenT, pI, pAdd, pIx4, pIx, pDGet, dctAt, dat, look, tgName, forgets, retv, gCall, T.able, T.view, List.getElem?_cons_zero, List.getElem?_cons_succ, List.set_cons_zero, List.set_cons_succ, R.bind_ok, R.bindO_ok, List.length_cons, List.length_nil, dats, trees, lsd, fin, ables_map, views_map', ables_nil, views_nil, ables_cons, views_cons, filter_true', atI_c0, atI_c1, atI_c2, atI_nil, sz_0, sz_1, sz_2, sz_3, sz_4, sz_5, sz_6, sz_7, sz_8, sz_9, sz_10, sz_11, sz_12, sz_13, sz_14, sz_15, pEq_lit, pNe_lit, pIn_2, pIn_3, pIn_4, pNotIn_3, pNotIn_4, pEq_int, pNe_int, okD_lit, okD_int, okD_non, okD_bl, e1, e2]
    · cases h
  | .und p, s, t, h => by
    simp only [typ, Option.map_eq_some_iff] at h
    obtain ⟨⟨a, b⟩, h1, h2⟩ := h
    cases h2
    obtain ⟨d1, b1⟩ := done_ok p _ _ h1
    refine ⟨fun k ob v hv hk => ?_, fun k ob v hv hk => ?_⟩ <;> simp only [ph] at hk <;> obtain ⟨k, rfl⟩ : ∃ k', k = k' + 1 := ⟨k - 1, by omega⟩
    · have e := b1 k ob v hv (by omega)
      rw [Fk_done, fnD_fin]
      simp only [List.map_cons, List.map_nil, List.replicate, List.cons_append, List.nil_append]
      simp [m_done, P.d, run, sSeq, sIf, sAsg, sAsgT, sAug, sPar, sFor, sForget, sRet, sRetN, sAppend, sExtend, sNext, sBrk, sCont, sDrop, appv, isLst, gB, bv, gNp, npv, gOp, gUn, gVar, gC, gCB, gFz, fzv, gTru, tru, gAndT, gOrT, gNotT, gAnd, gOr, gNot, gIf, PL.gTup, gLst, gIsi, gIsi2, tyN_non, tyN_bl, tyN_int, tyN_str, tyN_tup, tyN_lst, tyN_tl, gSl, oNone, oSome, intv, aNil, aCons, iRange1, iRange2, rng1, rng2, iOf, itv, bLen, bAbs, bInt, bTuple, bList, lenT, pI, pAdd, pIx4, pIx, pDGet, dctAt, dat, look, tgName, forgets, retv, gCall, T.able, T.view, List.getElem?_cons_zero, List.getElem?_cons_succ, List.set_cons_zero, List.set_cons_succ, R.bind_ok, R.bindO_ok, List.length_cons, List.length_nil, dats, trees, lsd, fin, ables_map, views_map', ables_nil, views_nil, ables_cons, views_cons, filter_true', atI_c0, atI_c1, atI_c2, atI_nil, sz_0, sz_1, sz_2, sz_3, sz_4, sz_5, sz_6, sz_7, sz_8, sz_9, sz_10, sz_11, sz_12, sz_13, sz_14, sz_15, pEq_lit, pNe_lit, pIn_2, pIn_3, pIn_4, pNotIn_3, pNotIn_4, pEq_int, pNe_int, okD_lit, okD_int, okD_non, okD_bl, e]
    · have e := d1 k ob v hv (by omega)
      rw [Fk_back, fnD_fin]
      simp only [List.map_cons, List.map_nil, List.replicate, List.cons_append, List.nil_append]
      simp [m_back, P.d, bk, sSeq, sIf, sAsg, sAsgT, sAug, sPar, sFor, sForget, sRet, sRetN, sAppend, sExtend, sNext, sBrk, sCont, sDrop, appv, isLst, gB, bv, gNp, npv, gOp, gUn, gVar, gC, gCB, gFz, fzv, gTru, tru, gAndT, gOrT, gNotT, gAnd, gOr, gNot, gIf, PL.gTup, gLst, gIsi, gIsi2, tyN_non, tyN_bl, tyN_int, tyN_str, tyN_tup, tyN_lst, tyN_tl, gSl, oNone, oSome, intv, aNil, aCons, iRange1, iRange2, rng1, rng2, iOf, itv, bLen, bAbs, bInt, bTuple, bList, lenT, pI, pAdd, pIx4, pIx, pDGet, dctAt, dat, look, tgName, forgets, retv, gCall, T.able, T.view, List.getElem?_cons_zero, List.getElem?_cons_succ, List.set_cons_zero, List.set_cons_succ, R.bind_ok, R.bindO_ok, List.length_cons, List.length_nil, dats, trees, lsd, fin, ables_map, views_map', ables_nil, views_nil, ables_cons, views_cons, filter_true', atI_c0, atI_c1, atI_c2, atI_nil, sz_0, sz_1, sz_2, sz_3, sz_4, sz_5, sz_6, sz_7, sz_8, sz_9, sz_10, sz_11, sz_12, sz_13, sz_14, sz_15, pEq_lit, pNe_lit, pIn_2, pIn_3, pIn_4, pNotIn_3, pNotIn_4, pEq_int, pNe_int, okD_lit, okD_int, okD_non, okD_bl, e]
end L_k62
set_option Elab.async false
set_option linter.all false
set_option maxRecDepth 100000
set_option autoImplicit false
set_option maxHeartbeats 0
namespace L_k62
open PySem PySem.Spec PyProof.Rows L2 PL
/-! ### the values as the law lists them -/
theorem vals_len : ∀ t : Ty, t.vals.length = t.n
  | .one => rfl
  | .sum a b => by simp [Ty.vals, Ty.n, vals_len a, vals_len b]
  | .pair a b => by
    simp only [Ty.vals, Ty.n, List.length_flatMap, List.length_map]
    rw [← vals_len a, ← vals_len b]
    generalize a.vals = l
    induction l with
    | nil => simp
    | cons x l ih => simp only [List.map_cons, List.sum_cons, ih, List.length_cons, Nat.add_mul, Nat.one_mul]; omega
theorem comp_left (own : Nat) {sl : List T} {ob : List T} (h : sl[own]? = some .hole) (tag : Str) (ds : List D) (hl : ds.length ≤ 100000) :
    compGo [own] (tgName own) gtYes (PL.gTup (aCons (gC (.str tag)) (aCons (gFz (gVar own)) aNil))) ds [] ⟨sl, ob⟩ = .ok (ds.map fun x => T.fz (.tup [.str tag, x])) ⟨sl, ob⟩ := by
  have hlt : own < sl.length := (List.getElem?_eq_some_iff.mp h).1
  have hb : (sl.set own .hole) = sl := by
    rw [List.getElem?_eq_some_iff] at h
    obtain ⟨_, h⟩ := h
    rw [← h]
    exact List.set_getElem_self _
  have c := compGo_pure (own := [own]) (tg := tgName own) (gt := gtYes) (ge := PL.gTup (aCons (gC (.str tag)) (aCons (gFz (gVar own)) aNil))) (s := ⟨sl, ob⟩) (fun _ => true) (fun x => T.fz (.tup [.str tag, x])) ds [] (fun d _ => by
    refine ⟨⟨sl.set own (.fz d), ob⟩, by simp [tgName, hlt], rfl, fun _ => ?_, ?_⟩
    · simp [sSeq, sIf, sAsg, sAsgT, sAug, sPar, sFor, sForget, sRet, sRetN, sAppend, sExtend, sNext, sBrk, sCont, sDrop, appv, isLst, gB, bv, gNp, npv, gOp, gUn, gVar, gC, gCB, gFz, fzv, gTru, tru, gAndT, gOrT, gNotT, gAnd, gOr, gNot, gIf, PL.gTup, gLst, gIsi, gIsi2, tyN_non, tyN_bl, tyN_int, tyN_str, tyN_tup, tyN_lst, tyN_tl, gSl, oNone, oSome, intv, aNil, aCons, iRange1, iRange2, rng1, rng2, iOf, itv, bLen, bAbs, bInt, bTuple, bList, lenT, pI, pAdd, pIx4, pIx, pDGet, dctAt, dat, look, tgName, forgets, retv, gCall, T.able, T.view, List.getElem?_cons_zero, List.getElem?_cons_succ, List.set_cons_zero, List.set_cons_succ, R.bind_ok, R.bindO_ok, List.length_cons, List.length_nil, dats, trees, lsd, fin, ables_map, views_map', ables_nil, views_nil, ables_cons, views_cons, filter_true', atI_c0, atI_c1, atI_c2, atI_nil, sz_0, sz_1, sz_2, sz_3, sz_4, sz_5, sz_6, sz_7, sz_8, sz_9, sz_10, sz_11, sz_12, sz_13, sz_14, sz_15, hlt]
    · simp [forgets, hb]) (by simpa using sz_le hl)
  simpa [filter_true'] using c
theorem comp_pair (own : Nat) {sl : List T} {ob : List T} (h : sl[own]? = some .hole) (ix : Nat) (x : D) (hx : sl[ix]? = some (.fz x)) (ne : ix ≠ own) (ds : List D) (hl : ds.length ≤ 100000) :
    compGo [own] (tgName own) gtYes (PL.gTup (aCons (gFz (gVar ix)) (aCons (gFz (gVar own)) aNil))) ds [] ⟨sl, ob⟩ = .ok (ds.map fun y => T.fz (pr x y)) ⟨sl, ob⟩ := by
  have hlt : own < sl.length := (List.getElem?_eq_some_iff.mp h).1
  have hb : (sl.set own .hole) = sl := by
    rw [List.getElem?_eq_some_iff] at h
    obtain ⟨_, h⟩ := h
    rw [← h]
    exact List.set_getElem_self _
  have c := compGo_pure (own := [own]) (tg := tgName own) (gt := gtYes) (ge := PL.gTup (aCons (gFz (gVar ix)) (aCons (gFz (gVar own)) aNil))) (s := ⟨sl, ob⟩) (fun _ => true) (fun y => T.fz (pr x y)) ds [] (fun d _ => by
    refine ⟨⟨sl.set own (.fz d), ob⟩, by simp [tgName, hlt], rfl, fun _ => ?_, ?_⟩
    · have : (sl.set own (.fz d))[ix]? = some (.fz x) := by rw [List.getElem?_set_ne (Ne.symm ne)]; exact hx
      simp [sSeq, sIf, sAsg, sAsgT, sAug, sPar, sFor, sForget, sRet, sRetN, sAppend, sExtend, sNext, sBrk, sCont, sDrop, appv, isLst, gB, bv, gNp, npv, gOp, gUn, gVar, gC, gCB, gFz, fzv, gTru, tru, gAndT, gOrT, gNotT, gAnd, gOr, gNot, gIf, PL.gTup, gLst, gIsi, gIsi2, tyN_non, tyN_bl, tyN_int, tyN_str, tyN_tup, tyN_lst, tyN_tl, gSl, oNone, oSome, intv, aNil, aCons, iRange1, iRange2, rng1, rng2, iOf, itv, bLen, bAbs, bInt, bTuple, bList, lenT, pI, pAdd, pIx4, pIx, pDGet, dctAt, dat, look, tgName, forgets, retv, gCall, T.able, T.view, List.getElem?_cons_zero, List.getElem?_cons_succ, List.set_cons_zero, List.set_cons_succ, R.bind_ok, R.bindO_ok, List.length_cons, List.length_nil, dats, trees, lsd, fin, ables_map, views_map', ables_nil, views_nil, ables_cons, views_cons, filter_true', atI_c0, atI_c1, atI_c2, atI_nil, sz_0, sz_1, sz_2, sz_3, sz_4, sz_5, sz_6, sz_7, sz_8, sz_9, sz_10, sz_11, sz_12, sz_13, sz_14, sz_15, hlt, this, pr]
    · simp [forgets, hb]) (by simpa using sz_le hl)
  simpa [filter_true'] using c
theorem pairs_len (n : Nat) (a b : List D) (h : n < a.length) : ((a.take n).flatMap fun x => b.map (pr x)).length = n * b.length := by
  rw [List.length_flatMap]
  have : ∀ l : List D, (l.map fun x => (b.map (pr x)).length).sum = l.length * b.length := fun l => by
    induction l with
    | nil => simp
    | cons x l ih => rw [List.map_cons, List.sum_cons, ih, List.length_map, List.length_cons, Nat.succ_mul]; omega
  rw [this, List.length_take, Nat.min_eq_left (by omega)]
theorem n_le_sum (a b : Ty) : a.n ≤ (Ty.sum a b).n ∧ b.n ≤ (Ty.sum a b).n := by simp only [Ty.n]; omega
theorem n_le_pair (a b : Ty) : a.n ≤ (Ty.pair a b).n ∧ b.n ≤ (Ty.pair a b).n := by
  simp only [Ty.n]
  exact ⟨Nat.le_mul_of_pos_right _ (n_pos b), Nat.le_mul_of_pos_left _ (n_pos a)⟩
theorem lawvals_ok : ∀ (t : Ty) (k : Nat) (ob : List T), t.dep < k → t.n ≤ 1000 → Fk k 14 [t.d] ob = .ok (.lst (t.vals.map .fz)) ob
  | .one, k + 1, ob, _, _ => by
    rw [Fk_law_values, fnD_fin]
    simp only [List.map_cons, List.map_nil, List.replicate, List.cons_append, List.nil_append]
    simp [m_law_values, Ty.d, sSeq, sIf, sAsg, sAsgT, sAug, sPar, sFor, sForget, sRet, sRetN, sAppend, sExtend, sNext, sBrk, sCont, sDrop, appv, isLst, gB, bv, gNp, npv, gOp, gUn, gVar, gC, gCB, gFz, fzv, gTru, tru, gAndT, gOrT, gNotT, gAnd, gOr, gNot, gIf, PL.gTup, gLst, gIsi, gIsi2, tyN_non, tyN_bl, tyN_int, tyN_str, tyN_tup, tyN_lst, tyN_tl, gSl, oNone, oSome, intv, aNil, aCons, iRange1, iRange2, rng1, rng2, iOf, itv, bLen, bAbs, bInt, bTuple, bList, lenT, pI, pAdd, pIx4, pIx, pDGet, dctAt, dat, look, tgName, forgets, retv, gCall, T.able, T.view, List.getElem?_cons_zero, List.getElem?_cons_succ, List.set_cons_zero, List.set_cons_succ, R.bind_ok, R.bindO_ok, List.length_cons, List.length_nil, dats, trees, lsd, fin, ables_map, views_map', ables_nil, views_nil, ables_cons, views_cons, filter_true', atI_c0, atI_c1, atI_c2, atI_nil, sz_0, sz_1, sz_2, sz_3, sz_4, sz_5, sz_6, sz_7, sz_8, sz_9, sz_10, sz_11, sz_12, sz_13, sz_14, sz_15, pEq_lit, pNe_lit, pIn_2, pIn_3, pIn_4, pNotIn_3, pNotIn_4, pEq_int, pNe_int, okD_lit, okD_int, okD_non, okD_bl, Ty.vals]
  | .sum a b, k + 1, ob, h, h3 => by
    rw [Ty.dep] at h
    obtain ⟨h1, h2⟩ := n_le_sum a b
    have ia := lawvals_ok a k ob (by omega) (by omega)
    have ib := lawvals_ok b k ob (by omega) (by omega)
    have na := vals_len a
    have nb := vals_len b
    have ca := comp_left 2 (sl := [.fz (.tup [.str "sum", a.d, b.d]), .lst [], .hole, .hole]) (ob := ob) rfl "left" a.vals (by omega)
    have cb := comp_left 3 (sl := [.fz (.tup [.str "sum", a.d, b.d]), .lst [], .hole, .hole]) (ob := ob) rfl "right" b.vals (by omega)
    have hs : a.vals.length + b.vals.length ≤ sizeLine := sz_le (by omega)
    have ho : holes [2] ⟨[.fz (.tup [.str "sum", a.d, b.d]), .lst [], .hole, .hole], ob⟩ = true := rfl
    have ho3 : holes [3] ⟨[.fz (.tup [.str "sum", a.d, b.d]), .lst [], .hole, .hole], ob⟩ = true := rfl
    have fa : fzs (a.vals.map fun x => T.fz (.tup [.str "left", x])) = some (a.vals.map lf) := fzs_map' _ _
    have fb : fzs (b.vals.map fun x => T.fz (.tup [.str "right", x])) = some (b.vals.map rt) := fzs_map' _ _
    rw [Fk_law_values, fnD_fin]
    simp only [List.map_cons, List.map_nil, List.replicate, List.cons_append, List.nil_append]
    simp [m_law_values, Ty.d, sSeq, sIf, sAsg, sAsgT, sAug, sPar, sFor, sForget, sRet, sRetN, sAppend, sExtend, sNext, sBrk, sCont, sDrop, appv, isLst, gB, bv, gNp, npv, gOp, gUn, gVar, gC, gCB, gFz, fzv, gTru, tru, gAndT, gOrT, gNotT, gAnd, gOr, gNot, gIf, PL.gTup, gLst, gIsi, gIsi2, tyN_non, tyN_bl, tyN_int, tyN_str, tyN_tup, tyN_lst, tyN_tl, gSl, oNone, oSome, intv, aNil, aCons, iRange1, iRange2, rng1, rng2, iOf, itv, bLen, bAbs, bInt, bTuple, bList, lenT, pI, pAdd, pIx4, pIx, pDGet, dctAt, dat, look, tgName, forgets, retv, gCall, T.able, T.view, List.getElem?_cons_zero, List.getElem?_cons_succ, List.set_cons_zero, List.set_cons_succ, R.bind_ok, R.bindO_ok, List.length_cons, List.length_nil, dats, trees, lsd, fin, ables_map, views_map', ables_nil, views_nil, ables_cons, views_cons, filter_true', atI_c0, atI_c1, atI_c2, atI_nil, sz_0, sz_1, sz_2, sz_3, sz_4, sz_5, sz_6, sz_7, sz_8, sz_9, sz_10, sz_11, sz_12, sz_13, sz_14, sz_15, pEq_lit, pNe_lit, pIn_2, pIn_3, pIn_4, pNotIn_3, pNotIn_4, pEq_int, pNe_int, okD_lit, okD_int, okD_non, okD_bl, ia, ib, Ty.vals, gComp, ho, ho3, ca, cb, fa, fb, hs]
  | .pair a b, k + 1, ob, h, h3 => by
    rw [Ty.dep] at h
    obtain ⟨h1, h2⟩ := n_le_pair a b
    have ia := lawvals_ok a k ob (by omega) (by omega)
    have ib := fun ob => lawvals_ok b k ob (by omega) (by omega)
    have na := vals_len a
    have nb := vals_len b
    have H := forGo_ix (tg := tgName 2) (body := sSeq (sAsg 1 (gOp pAdd (gVar 1) (gComp [3] (iOf (gCall (Fk k 14) (aCons (gFz (gOp pIx4 (gVar 0) (gC (.int 2)))) aNil))) (tgName 3) gtYes (PL.gTup (aCons (gFz (gVar 2)) (aCons (gFz (gVar 3)) aNil))))))
      (sForget [2] sNext)) (ds := a.vals) (fun n s => s = ⟨[.fz (.tup [.str "pair", a.d, b.d]), .lst (((a.vals.take n).flatMap fun x => b.vals.map (pr x)).map .fz), .hole, .hole], ob⟩) (fun n d s hd hs => by
      subst hs
      refine ⟨⟨[.fz (.tup [.str "pair", a.d, b.d]), .lst (((a.vals.take n).flatMap fun x => b.vals.map (pr x)).map .fz), .fz d, .hole], ob⟩, _, rfl, ?_, rfl⟩
      have hn : n < a.vals.length := (List.getElem?_eq_some_iff.mp hd).1
      have ht : a.vals.take (n + 1) = a.vals.take n ++ [d] := by rw [List.take_add_one, hd]; rfl
      have c := comp_pair 3 (sl := [.fz (.tup [.str "pair", a.d, b.d]), .lst (((a.vals.take n).flatMap fun x => b.vals.map (pr x)).map .fz), .fz d, .hole]) (ob := ob) rfl 2 d rfl (by decide) b.vals (by omega)
      have hl : ((a.vals.take n).flatMap fun x => b.vals.map (pr x)).length + b.vals.length ≤ sizeLine := by
        refine sz_le ?_
        rw [pairs_len n _ _ hn, nb]
        have h4 := Nat.mul_le_mul_right b.vals.length (show n + 1 ≤ a.vals.length by omega)
        rw [Nat.succ_mul, na, nb] at h4
        have h5 : a.n * b.n ≤ 1000 := h3
        omega
      rw [ht, List.flatMap_append, List.map_append]
      generalize ((a.vals.take n).flatMap fun x => b.vals.map (pr x)) = w at *
      have ho : holes [3] ⟨[.fz (.tup [.str "pair", a.d, b.d]), .lst (w.map .fz), .fz d, .hole], ob⟩ = true := rfl
      have fb : fzs (b.vals.map fun y => T.fz (pr d y)) = some (b.vals.map (pr d)) := fzs_map' _ _
      simp [sSeq, sIf, sAsg, sAsgT, sAug, sPar, sFor, sForget, sRet, sRetN, sAppend, sExtend, sNext, sBrk, sCont, sDrop, appv, isLst, gB, bv, gNp, npv, gOp, gUn, gVar, gC, gCB, gFz, fzv, gTru, tru, gAndT, gOrT, gNotT, gAnd, gOr, gNot, gIf, PL.gTup, gLst, gIsi, gIsi2, tyN_non, tyN_bl, tyN_int, tyN_str, tyN_tup, tyN_lst, tyN_tl, gSl, oNone, oSome, intv, aNil, aCons, iRange1, iRange2, rng1, rng2, iOf, itv, bLen, bAbs, bInt, bTuple, bList, lenT, pI, pAdd, pIx4, pIx, pDGet, dctAt, dat, look, tgName, forgets, retv, gCall, T.able, T.view, List.getElem?_cons_zero, List.getElem?_cons_succ, List.set_cons_zero, List.set_cons_succ, R.bind_ok, R.bindO_ok, List.length_cons, List.length_nil, dats, trees, lsd, fin, ables_map, views_map', ables_nil, views_nil, ables_cons, views_cons, filter_true', atI_c0, atI_c1, atI_c2, atI_nil, sz_0, sz_1, sz_2, sz_3, sz_4, sz_5, sz_6, sz_7, sz_8, sz_9, sz_10, sz_11, sz_12, sz_13, sz_14, sz_15, ib, gComp, ho, c, fb, hl]) ⟨[.fz (.tup [.str "pair", a.d, b.d]), .lst [], .hole, .hole], ob⟩ rfl
    obtain ⟨s', e, rfl⟩ := H
    rw [List.take_length] at e
    rw [Fk_law_values, fnD_fin]
    simp only [List.map_cons, List.map_nil, List.replicate, List.cons_append, List.nil_append]
    simp [m_law_values, Ty.d, sSeq, sIf, sAsg, sAsgT, sAug, sPar, sFor, sForget, sRet, sRetN, sAppend, sExtend, sNext, sBrk, sCont, sDrop, appv, isLst, gB, bv, gNp, npv, gOp, gUn, gVar, gC, gCB, gFz, fzv, gTru, tru, gAndT, gOrT, gNotT, gAnd, gOr, gNot, gIf, PL.gTup, gLst, gIsi, gIsi2, tyN_non, tyN_bl, tyN_int, tyN_str, tyN_tup, tyN_lst, tyN_tl, gSl, oNone, oSome, intv, aNil, aCons, iRange1, iRange2, rng1, rng2, iOf, itv, bLen, bAbs, bInt, bTuple, bList, lenT, pI, pAdd, pIx4, pIx, pDGet, dctAt, dat, look, tgName, forgets, retv, gCall, T.able, T.view, List.getElem?_cons_zero, List.getElem?_cons_succ, List.set_cons_zero, List.set_cons_succ, R.bind_ok, R.bindO_ok, List.length_cons, List.length_nil, dats, trees, lsd, fin, ables_map, views_map', ables_nil, views_nil, ables_cons, views_cons, filter_true', atI_c0, atI_c1, atI_c2, atI_nil, sz_0, sz_1, sz_2, sz_3, sz_4, sz_5, sz_6, sz_7, sz_8, sz_9, sz_10, sz_11, sz_12, sz_13, sz_14, sz_15, pEq_lit, pNe_lit, pIn_2, pIn_3, pIn_4, pNotIn_3, pNotIn_4, pEq_int, pNe_int, okD_lit, okD_int, okD_non, okD_bl, ia, ib, Ty.vals, e]
  | .one, 0, _, h, _ => by omega
  | .sum _ _, 0, _, h, _ => by omega
  | .pair _ _, 0, _, h, _ => by omega
/-! ### values: data of a depth, equal only if the same -/
theorem val_ok : ∀ (t : Ty) (n : Nat), t.dep ≤ n → ∀ v ∈ t.vals, okD (n + 1) v = true
  | .one, n, _, v, hv => by
    rw [m_one] at hv
    subst hv
    exact okD_nil _
  | .sum a b, n, h, v, hv => by
    rw [Ty.dep] at h
    obtain ⟨m, rfl⟩ : ∃ m, n = m + 1 := ⟨n - 1, by omega⟩
    rcases m_sum.mp hv with ⟨x, hx, rfl⟩ | ⟨x, hx, rfl⟩
    · exact okD_tup_mk (by simp) (by
        intro d hd
        simp at hd
        rcases hd with rfl | rfl
        · exact okD_lit _ _
        · exact val_ok a m (by omega) _ hx)
    · exact okD_tup_mk (by simp) (by
        intro d hd
        simp at hd
        rcases hd with rfl | rfl
        · exact okD_lit _ _
        · exact val_ok b m (by omega) _ hx)
  | .pair a b, n, h, v, hv => by
    rw [Ty.dep] at h
    obtain ⟨m, rfl⟩ : ∃ m, n = m + 1 := ⟨n - 1, by omega⟩
    obtain ⟨x, hx, y, hy, rfl⟩ := m_pair.mp hv
    exact okD_tup_mk (by simp) (by
      intro d hd
      simp at hd
      rcases hd with rfl | rfl
      · exact val_ok a m (by omega) _ hx
      · exact val_ok b m (by omega) _ hy)
theorem val64 {t : Ty} (h : t.dep ≤ 50) {v : D} (hv : v ∈ t.vals) : okD 64 v = true := okD_mono _ _ _ (by omega) (val_ok t 50 h v hv)
theorem val_eq : ∀ (t : Ty) (x y : D), x ∈ t.vals → y ∈ t.vals → (eqD x y = true ↔ x = y)
  | .one, x, y, hx, hy => by
    rw [m_one] at hx hy
    subst hx hy
    simp [eqD, eqDs]
  | .sum a b, x, y, hx, hy => by
    rcases m_sum.mp hx with ⟨x', hx', rfl⟩ | ⟨x', hx', rfl⟩ <;> rcases m_sum.mp hy with ⟨y', hy', rfl⟩ | ⟨y', hy', rfl⟩
    · have := val_eq a x' y' hx' hy'
      simp [lf, eqD, eqDs, this]
    · simp [lf, rt, eqD, eqDs, ofS_inj]
    · simp [lf, rt, eqD, eqDs, ofS_inj]
    · have := val_eq b x' y' hx' hy'
      simp [rt, eqD, eqDs, this]
  | .pair a b, x, y, hx, hy => by
    obtain ⟨x1, h1, x2, h2, rfl⟩ := m_pair.mp hx
    obtain ⟨y1, h3, y2, h4, rfl⟩ := m_pair.mp hy
    have e1 := val_eq a x1 y1 h1 h3
    have e2 := val_eq b x2 y2 h2 h4
    simp [pr, eqD, eqDs, e1, e2]
theorem val_alk : ∀ (t : Ty) (x : D), x ∈ t.vals → alk x x = true
  | .one, x, hx => by rw [m_one] at hx; subst hx; simp [alk, alks]
  | .sum a b, x, hx => by
    rcases m_sum.mp hx with ⟨x', hx', rfl⟩ | ⟨x', hx', rfl⟩
    · simp [lf, alk, alks, val_alk a x' hx']
    · simp [rt, alk, alks, val_alk b x' hx']
  | .pair a b, x, hx => by
    obtain ⟨x1, h1, x2, h2, rfl⟩ := m_pair.mp hx
    simp [pr, alk, alks, val_alk a x1 h1, val_alk b x2 h2]
theorem typ_n : ∀ (p : P) (s t : Ty), typ p = some (s, t) → s.n = t.n
  | .same a, s, t, h => by cases h; rfl
  | .drop a, s, t, h => by cases h; simp [Ty.n]
  | .turnS a b, s, t, h => by cases h; simp only [Ty.n]; omega
  | .turnP a b, s, t, h => by cases h; simp only [Ty.n]; exact Nat.mul_comm _ _
  | .spread a b c, s, t, h => by cases h; simp only [Ty.n]; exact Nat.add_mul _ _ _
  | .shiftS a b c, s, t, h => by cases h; simp only [Ty.n]; omega
  | .shiftP a b c, s, t, h => by cases h; simp only [Ty.n]; exact Nat.mul_assoc _ _ _
  | .thn p q, s, t, h => by
    simp only [typ] at h
    split at h
    · rename_i a b c e h1 h2
      split at h
      · rename_i hbc
        subst hbc
        cases h
        exact (typ_n p _ _ h1).trans (typ_n q _ _ h2)
      · cases h
    · cases h
  | .eth p q, s, t, h => by
    simp only [typ] at h
    split at h
    · rename_i a b c e h1 h2
      cases h
      have := typ_n p _ _ h1
      have := typ_n q _ _ h2
      simp only [Ty.n]; omega
    · cases h
  | .bth p q, s, t, h => by
    simp only [typ] at h
    split at h
    · rename_i a b c e h1 h2
      cases h
      have e1 := typ_n p _ _ h1
      have e2 := typ_n q _ _ h2
      simp only [Ty.n, e1, e2]
    · cases h
  | .und p, s, t, h => by
    simp only [typ, Option.map_eq_some_iff] at h
    obtain ⟨⟨a, b⟩, h1, h2⟩ := h
    cases h2
    exact (typ_n p _ _ h1).symm
end L_k62
set_option Elab.async false
set_option linter.all false
set_option maxRecDepth 100000
set_option autoImplicit false
set_option maxHeartbeats 0
namespace L_k62
open PySem PySem.Spec PyProof.Rows L2 PL
/-- a comprehension whose test may add to the store -/
theorem compGo_gen {own : List Nat} {tg : GG} {gt : GT} {ge : G} (p : D → Bool) (f : D → T) (I : S → Prop) : ∀ (ds : List D) (acc : List T) (s : S),
    (∀ d ∈ ds, ∀ s, I s → ∃ s1 s2, tg d s = some s1 ∧ gt s1 = .ok (p d) s2 ∧ (p d = true → gNp ge s2 = .ok (.tr (f d)) s2) ∧ I (forgets own s2)) → I s → acc.length + ds.length ≤ sizeLine →
    ∃ s', compGo own tg gt ge ds acc s = .ok (acc ++ (ds.filter p).map f) s' ∧ I s'
  | [], acc, s, _, h, _ => ⟨s, by simp [compGo], h⟩
  | d :: ds, acc, s, h, hi, hl => by
    obtain ⟨s1, s2, e1, e2, e3, e4⟩ := h d (List.mem_cons_self ..) s hi
    rw [List.length_cons] at hl
    cases hp : p d with
    | false =>
      obtain ⟨s', e5, h5⟩ := compGo_gen p f I ds acc (forgets own s2) (fun d hd => h d (List.mem_cons_of_mem _ hd)) e4 (by omega)
      refine ⟨s', ?_, h5⟩
      unfold compGo
      rw [e1]
      simp only
      rw [e2, R.bind_ok, hp, if_neg (by decide), e5]
      simp [hp]
    | true =>
      obtain ⟨s', e5, h5⟩ := compGo_gen p f I ds (acc ++ [f d]) (forgets own s2) (fun d hd => h d (List.mem_cons_of_mem _ hd)) e4 (by rw [List.length_append]; simp only [List.length_cons, List.length_nil]; omega)
      refine ⟨s', ?_, h5⟩
      unfold compGo
      rw [e1]
      simp only
      rw [e2, R.bind_ok, hp, if_pos rfl, e3 hp, R.bind_ok]
      simp only
      rw [if_pos (by omega), e5]
      simp [hp]
theorem ki_l : keyIx [.inr "left", .inr "right"] (.inr "left") = some 0 := by decide +kernel
theorem ki_r : keyIx [.inr "left", .inr "right"] (.inr "right") = some 1 := by decide +kernel
def LOK (p : P) (s : Ty) : Prop := ∀ (k : Nat) (ob : List T) (v : D), v ∈ s.vals → pd p + ph p + 1 < k → ∃ ext, Fk k 17 [p.d, v] ob = .ok (.fz (run p v)) (ob ++ ext)
def DT : T := .dct [.inr "left", .inr "right"] [.fz (.str "right"), .fz (.str "left")]
theorem lawdone_ok : ∀ (p : P) (s t : Ty), typ p = some (s, t) → s.n ≤ 1000 → pd p ≤ 50 → LOK p s
  | .same a, s, t, h, hn, hd => fun k ob v hv hk => by
    cases h
    obtain ⟨k, rfl⟩ : ∃ k', k = k' + 1 := ⟨k - 1, by omega⟩
    refine ⟨[], ?_⟩
    rw [Fk_law_done, fnD_fin]
    simp only [List.map_cons, List.map_nil, List.replicate, List.cons_append, List.nil_append]
    simp [m_law_done, P.d, run, sSeq, sIf, sAsg, sAsgT, sAug, sPar, sFor, sForget, sRet, sRetN, sAppend, sExtend, sNext, sBrk, sCont, sDrop, appv, isLst, gB, bv, gNp, npv, gOp, gUn, gVar, gC, gCB, gFz, fzv, gTru, tru, gAndT, gOrT, gNotT, gAnd, gOr, gNot, gIf, PL.gTup, gLst, gIsi, gIsi2, tyN_non, tyN_bl, tyN_int, tyN_str, tyN_tup, tyN_lst, tyN_tl, gSl, oNone, oSome, intv, aNil, aCons, iRange1, iRange2, rng1, rng2, iOf, itv, bLen, bAbs, bInt, bTuple, bList, lenT, pI, pAdd, pIx4, pIx, pDGet, dctAt, dat, look, tgName, forgets, retv, gCall, T.able, T.view, List.getElem?_cons_zero, List.getElem?_cons_succ, List.set_cons_zero, List.set_cons_succ, R.bind_ok, R.bindO_ok, List.length_cons, List.length_nil, dats, trees, lsd, fin, ables_map, views_map', ables_nil, views_nil, ables_cons, views_cons, filter_true', atI_c0, atI_c1, atI_c2, atI_nil, sz_0, sz_1, sz_2, sz_3, sz_4, sz_5, sz_6, sz_7, sz_8, sz_9, sz_10, sz_11, sz_12, sz_13, sz_14, sz_15, pEq_lit, pNe_lit, pIn_2, pIn_3, pIn_4, pNotIn_3, pNotIn_4, pEq_int, pNe_int, okD_lit, okD_int, okD_non, okD_bl]
  | .drop a, s, t, h, hn, hd => fun k ob v hv hk => by
    cases h
    obtain ⟨k, rfl⟩ : ∃ k', k = k' + 1 := ⟨k - 1, by omega⟩
    obtain ⟨x, hx, y, hy, rfl⟩ := m_pair.mp hv
    refine ⟨[], ?_⟩
    rw [Fk_law_done, fnD_fin]
    simp only [List.map_cons, List.map_nil, List.replicate, List.cons_append, List.nil_append]
    simp [m_law_done, P.d, run, pr, at1, sSeq, sIf, sAsg, sAsgT, sAug, sPar, sFor, sForget, sRet, sRetN, sAppend, sExtend, sNext, sBrk, sCont, sDrop, appv, isLst, gB, bv, gNp, npv, gOp, gUn, gVar, gC, gCB, gFz, fzv, gTru, tru, gAndT, gOrT, gNotT, gAnd, gOr, gNot, gIf, PL.gTup, gLst, gIsi, gIsi2, tyN_non, tyN_bl, tyN_int, tyN_str, tyN_tup, tyN_lst, tyN_tl, gSl, oNone, oSome, intv, aNil, aCons, iRange1, iRange2, rng1, rng2, iOf, itv, bLen, bAbs, bInt, bTuple, bList, lenT, pI, pAdd, pIx4, pIx, pDGet, dctAt, dat, look, tgName, forgets, retv, gCall, T.able, T.view, List.getElem?_cons_zero, List.getElem?_cons_succ, List.set_cons_zero, List.set_cons_succ, R.bind_ok, R.bindO_ok, List.length_cons, List.length_nil, dats, trees, lsd, fin, ables_map, views_map', ables_nil, views_nil, ables_cons, views_cons, filter_true', atI_c0, atI_c1, atI_c2, atI_nil, sz_0, sz_1, sz_2, sz_3, sz_4, sz_5, sz_6, sz_7, sz_8, sz_9, sz_10, sz_11, sz_12, sz_13, sz_14, sz_15, pEq_lit, pNe_lit, pIn_2, pIn_3, pIn_4, pNotIn_3, pNotIn_4, pEq_int, pNe_int, okD_lit, okD_int, okD_non, okD_bl]
  | .turnS a b, s, t, h, hn, hd => fun k ob v hv hk => by
    cases h
    obtain ⟨k, rfl⟩ : ∃ k', k = k' + 1 := ⟨k - 1, by omega⟩
    refine ⟨[DT], ?_⟩
    rw [Fk_law_done, fnD_fin]
    simp only [List.map_cons, List.map_nil, List.replicate, List.cons_append, List.nil_append]
    rcases m_sum.mp hv with ⟨x, hx, rfl⟩ | ⟨x, hx, rfl⟩
    · rw [run_tS_l]; simp [m_law_done, P.d, lf, rt, DT, gDictOb, gaOf, dictv, sSeq, sIf, sAsg, sAsgT, sAug, sPar, sFor, sForget, sRet, sRetN, sAppend, sExtend, sNext, sBrk, sCont, sDrop, appv, isLst, gB, bv, gNp, npv, gOp, gUn, gVar, gC, gCB, gFz, fzv, gTru, tru, gAndT, gOrT, gNotT, gAnd, gOr, gNot, gIf, PL.gTup, gLst, gIsi, gIsi2, tyN_non, tyN_bl, tyN_int, tyN_str, tyN_tup, tyN_lst, tyN_tl, gSl, oNone, oSome, intv, aNil, aCons, iRange1, iRange2, rng1, rng2, iOf, itv, bLen, bAbs, bInt, bTuple, bList, lenT, pI, pAdd, pIx4, pIx, pDGet, dctAt, dat, look, tgName, forgets, retv, gCall, T.able, T.view, List.getElem?_cons_zero, List.getElem?_cons_succ, List.set_cons_zero, List.set_cons_succ, R.bind_ok, R.bindO_ok, List.length_cons, List.length_nil, dats, trees, lsd, fin, ables_map, views_map', ables_nil, views_nil, ables_cons, views_cons, filter_true', atI_c0, atI_c1, atI_c2, atI_nil, sz_0, sz_1, sz_2, sz_3, sz_4, sz_5, sz_6, sz_7, sz_8, sz_9, sz_10, sz_11, sz_12, sz_13, sz_14, sz_15, pEq_lit, pNe_lit, pIn_2, pIn_3, pIn_4, pNotIn_3, pNotIn_4, pEq_int, pNe_int, okD_lit, okD_int, okD_non, okD_bl, keyD, ki_l, ki_r]
    · rw [run_tS_r]; simp [m_law_done, P.d, lf, rt, DT, gDictOb, gaOf, dictv, sSeq, sIf, sAsg, sAsgT, sAug, sPar, sFor, sForget, sRet, sRetN, sAppend, sExtend, sNext, sBrk, sCont, sDrop, appv, isLst, gB, bv, gNp, npv, gOp, gUn, gVar, gC, gCB, gFz, fzv, gTru, tru, gAndT, gOrT, gNotT, gAnd, gOr, gNot, gIf, PL.gTup, gLst, gIsi, gIsi2, tyN_non, tyN_bl, tyN_int, tyN_str, tyN_tup, tyN_lst, tyN_tl, gSl, oNone, oSome, intv, aNil, aCons, iRange1, iRange2, rng1, rng2, iOf, itv, bLen, bAbs, bInt, bTuple, bList, lenT, pI, pAdd, pIx4, pIx, pDGet, dctAt, dat, look, tgName, forgets, retv, gCall, T.able, T.view, List.getElem?_cons_zero, List.getElem?_cons_succ, List.set_cons_zero, List.set_cons_succ, R.bind_ok, R.bindO_ok, List.length_cons, List.length_nil, dats, trees, lsd, fin, ables_map, views_map', ables_nil, views_nil, ables_cons, views_cons, filter_true', atI_c0, atI_c1, atI_c2, atI_nil, sz_0, sz_1, sz_2, sz_3, sz_4, sz_5, sz_6, sz_7, sz_8, sz_9, sz_10, sz_11, sz_12, sz_13, sz_14, sz_15, pEq_lit, pNe_lit, pIn_2, pIn_3, pIn_4, pNotIn_3, pNotIn_4, pEq_int, pNe_int, okD_lit, okD_int, okD_non, okD_bl, keyD, ki_l, ki_r]
  | .turnP a b, s, t, h, hn, hd => fun k ob v hv hk => by
    cases h
    obtain ⟨k, rfl⟩ : ∃ k', k = k' + 1 := ⟨k - 1, by omega⟩
    obtain ⟨x, hx, y, hy, rfl⟩ := m_pair.mp hv
    refine ⟨[], ?_⟩
    rw [Fk_law_done, fnD_fin]
    simp only [List.map_cons, List.map_nil, List.replicate, List.cons_append, List.nil_append]
    simp [m_law_done, P.d, run, pr, at0, at1, sSeq, sIf, sAsg, sAsgT, sAug, sPar, sFor, sForget, sRet, sRetN, sAppend, sExtend, sNext, sBrk, sCont, sDrop, appv, isLst, gB, bv, gNp, npv, gOp, gUn, gVar, gC, gCB, gFz, fzv, gTru, tru, gAndT, gOrT, gNotT, gAnd, gOr, gNot, gIf, PL.gTup, gLst, gIsi, gIsi2, tyN_non, tyN_bl, tyN_int, tyN_str, tyN_tup, tyN_lst, tyN_tl, gSl, oNone, oSome, intv, aNil, aCons, iRange1, iRange2, rng1, rng2, iOf, itv, bLen, bAbs, bInt, bTuple, bList, lenT, pI, pAdd, pIx4, pIx, pDGet, dctAt, dat, look, tgName, forgets, retv, gCall, T.able, T.view, List.getElem?_cons_zero, List.getElem?_cons_succ, List.set_cons_zero, List.set_cons_succ, R.bind_ok, R.bindO_ok, List.length_cons, List.length_nil, dats, trees, lsd, fin, ables_map, views_map', ables_nil, views_nil, ables_cons, views_cons, filter_true', atI_c0, atI_c1, atI_c2, atI_nil, sz_0, sz_1, sz_2, sz_3, sz_4, sz_5, sz_6, sz_7, sz_8, sz_9, sz_10, sz_11, sz_12, sz_13, sz_14, sz_15, pEq_lit, pNe_lit, pIn_2, pIn_3, pIn_4, pNotIn_3, pNotIn_4, pEq_int, pNe_int, okD_lit, okD_int, okD_non, okD_bl]
  | .spread a b c, s, t, h, hn, hd => fun k ob v hv hk => by
    cases h
    obtain ⟨k, rfl⟩ : ∃ k', k = k' + 1 := ⟨k - 1, by omega⟩
    obtain ⟨x, hx, y, hy, rfl⟩ := m_pair.mp hv
    refine ⟨[], ?_⟩
    rw [Fk_law_done, fnD_fin]
    simp only [List.map_cons, List.map_nil, List.replicate, List.cons_append, List.nil_append]
    rcases m_sum.mp hx with ⟨z, hz, rfl⟩ | ⟨z, hz, rfl⟩ <;> simp [m_law_done, P.d, run, pr, lf, rt, at0, at1, sSeq, sIf, sAsg, sAsgT, sAug, sPar, sFor, sForget, sRet, sRetN, sAppend, sExtend, sNext, sBrk, sCont, sDrop, appv, isLst, gB, bv, gNp, npv, gOp, gUn, gVar, gC, gCB, gFz, fzv, gTru, tru, gAndT, gOrT, gNotT, gAnd, gOr, gNot, gIf, PL.gTup, gLst, gIsi, gIsi2, tyN_non, tyN_bl, tyN_int, tyN_str, tyN_tup, tyN_lst, tyN_tl, gSl, oNone, oSome, intv, aNil, aCons, iRange1, iRange2, rng1, rng2, iOf, itv, bLen, bAbs, bInt, bTuple, bList, lenT, pI, pAdd, pIx4, pIx, pDGet, dctAt, dat, look, tgName, forgets, retv, gCall, T.able, T.view, List.getElem?_cons_zero, List.getElem?_cons_succ, List.set_cons_zero, List.set_cons_succ, R.bind_ok, R.bindO_ok, List.length_cons, List.length_nil, dats, trees, lsd, fin, ables_map, views_map', ables_nil, views_nil, ables_cons, views_cons, filter_true', atI_c0, atI_c1, atI_c2, atI_nil, sz_0, sz_1, sz_2, sz_3, sz_4, sz_5, sz_6, sz_7, sz_8, sz_9, sz_10, sz_11, sz_12, sz_13, sz_14, sz_15, pEq_lit, pNe_lit, pIn_2, pIn_3, pIn_4, pNotIn_3, pNotIn_4, pEq_int, pNe_int, okD_lit, okD_int, okD_non, okD_bl]
  | .shiftP a b c, s, t, h, hn, hd => fun k ob v hv hk => by
    cases h
    obtain ⟨k, rfl⟩ : ∃ k', k = k' + 1 := ⟨k - 1, by omega⟩
    obtain ⟨x, hx, y, hy, rfl⟩ := m_pair.mp hv
    obtain ⟨z, hz, u, hu, rfl⟩ := m_pair.mp hx
    refine ⟨[], ?_⟩
    rw [Fk_law_done, fnD_fin]
    simp only [List.map_cons, List.map_nil, List.replicate, List.cons_append, List.nil_append]
    simp [m_law_done, P.d, run, pr, at0, at1, sSeq, sIf, sAsg, sAsgT, sAug, sPar, sFor, sForget, sRet, sRetN, sAppend, sExtend, sNext, sBrk, sCont, sDrop, appv, isLst, gB, bv, gNp, npv, gOp, gUn, gVar, gC, gCB, gFz, fzv, gTru, tru, gAndT, gOrT, gNotT, gAnd, gOr, gNot, gIf, PL.gTup, gLst, gIsi, gIsi2, tyN_non, tyN_bl, tyN_int, tyN_str, tyN_tup, tyN_lst, tyN_tl, gSl, oNone, oSome, intv, aNil, aCons, iRange1, iRange2, rng1, rng2, iOf, itv, bLen, bAbs, bInt, bTuple, bList, lenT, pI, pAdd, pIx4, pIx, pDGet, dctAt, dat, look, tgName, forgets, retv, gCall, T.able, T.view, List.getElem?_cons_zero, List.getElem?_cons_succ, List.set_cons_zero, List.set_cons_succ, R.bind_ok, R.bindO_ok, List.length_cons, List.length_nil, dats, trees, lsd, fin, ables_map, views_map', ables_nil, views_nil, ables_cons, views_cons, filter_true', atI_c0, atI_c1, atI_c2, atI_nil, sz_0, sz_1, sz_2, sz_3, sz_4, sz_5, sz_6, sz_7, sz_8, sz_9, sz_10, sz_11, sz_12, sz_13, sz_14, sz_15, pEq_lit, pNe_lit, pIn_2, pIn_3, pIn_4, pNotIn_3, pNotIn_4, pEq_int, pNe_int, okD_lit, okD_int, okD_non, okD_bl]
  | .shiftS a b c, s, t, h, hn, hd => fun k ob v hv hk => by
    cases h
    obtain ⟨k, rfl⟩ : ∃ k', k = k' + 1 := ⟨k - 1, by omega⟩
    refine ⟨[], ?_⟩
    rw [Fk_law_done, fnD_fin]
    simp only [List.map_cons, List.map_nil, List.replicate, List.cons_append, List.nil_append]
    rcases m_sum.mp hv with ⟨x, hx, rfl⟩ | ⟨x, hx, rfl⟩
    · rcases m_sum.mp hx with ⟨z, hz, rfl⟩ | ⟨z, hz, rfl⟩
      · rw [run_sS_ll]; simp [m_law_done, P.d, lf, rt, sSeq, sIf, sAsg, sAsgT, sAug, sPar, sFor, sForget, sRet, sRetN, sAppend, sExtend, sNext, sBrk, sCont, sDrop, appv, isLst, gB, bv, gNp, npv, gOp, gUn, gVar, gC, gCB, gFz, fzv, gTru, tru, gAndT, gOrT, gNotT, gAnd, gOr, gNot, gIf, PL.gTup, gLst, gIsi, gIsi2, tyN_non, tyN_bl, tyN_int, tyN_str, tyN_tup, tyN_lst, tyN_tl, gSl, oNone, oSome, intv, aNil, aCons, iRange1, iRange2, rng1, rng2, iOf, itv, bLen, bAbs, bInt, bTuple, bList, lenT, pI, pAdd, pIx4, pIx, pDGet, dctAt, dat, look, tgName, forgets, retv, gCall, T.able, T.view, List.getElem?_cons_zero, List.getElem?_cons_succ, List.set_cons_zero, List.set_cons_succ, R.bind_ok, R.bindO_ok, List.length_cons, List.length_nil, dats, trees, lsd, fin, ables_map, views_map', ables_nil, views_nil, ables_cons, views_cons, filter_true', atI_c0, atI_c1, atI_c2, atI_nil, sz_0, sz_1, sz_2, sz_3, sz_4, sz_5, sz_6, sz_7, sz_8, sz_9, sz_10, sz_11, sz_12, sz_13, sz_14, sz_15, pEq_lit, pNe_lit, pIn_2, pIn_3, pIn_4, pNotIn_3, pNotIn_4, pEq_int, pNe_int, okD_lit, okD_int, okD_non, okD_bl]
      · rw [run_sS_lr]; simp [m_law_done, P.d, lf, rt, sSeq, sIf, sAsg, sAsgT, sAug, sPar, sFor, sForget, sRet, sRetN, sAppend, sExtend, sNext, sBrk, sCont, sDrop, appv, isLst, gB, bv, gNp, npv, gOp, gUn, gVar, gC, gCB, gFz, fzv, gTru, tru, gAndT, gOrT, gNotT, gAnd, gOr, gNot, gIf, PL.gTup, gLst, gIsi, gIsi2, tyN_non, tyN_bl, tyN_int, tyN_str, tyN_tup, tyN_lst, tyN_tl, gSl, oNone, oSome, intv, aNil, aCons, iRange1, iRange2, rng1, rng2, iOf, itv, bLen, bAbs, bInt, bTuple, bList, lenT, pI, pAdd, pIx4, pIx, pDGet, dctAt, dat, look, tgName, forgets, retv, gCall, T.able, T.view, List.getElem?_cons_zero, List.getElem?_cons_succ, List.set_cons_zero, List.set_cons_succ, R.bind_ok, R.bindO_ok, List.length_cons, List.length_nil, dats, trees, lsd, fin, ables_map, views_map', ables_nil, views_nil, ables_cons, views_cons, filter_true', atI_c0, atI_c1, atI_c2, atI_nil, sz_0, sz_1, sz_2, sz_3, sz_4, sz_5, sz_6, sz_7, sz_8, sz_9, sz_10, sz_11, sz_12, sz_13, sz_14, sz_15, pEq_lit, pNe_lit, pIn_2, pIn_3, pIn_4, pNotIn_3, pNotIn_4, pEq_int, pNe_int, okD_lit, okD_int, okD_non, okD_bl]
    · rw [run_sS_r]; simp [m_law_done, P.d, lf, rt, sSeq, sIf, sAsg, sAsgT, sAug, sPar, sFor, sForget, sRet, sRetN, sAppend, sExtend, sNext, sBrk, sCont, sDrop, appv, isLst, gB, bv, gNp, npv, gOp, gUn, gVar, gC, gCB, gFz, fzv, gTru, tru, gAndT, gOrT, gNotT, gAnd, gOr, gNot, gIf, PL.gTup, gLst, gIsi, gIsi2, tyN_non, tyN_bl, tyN_int, tyN_str, tyN_tup, tyN_lst, tyN_tl, gSl, oNone, oSome, intv, aNil, aCons, iRange1, iRange2, rng1, rng2, iOf, itv, bLen, bAbs, bInt, bTuple, bList, lenT, pI, pAdd, pIx4, pIx, pDGet, dctAt, dat, look, tgName, forgets, retv, gCall, T.able, T.view, List.getElem?_cons_zero, List.getElem?_cons_succ, List.set_cons_zero, List.set_cons_succ, R.bind_ok, R.bindO_ok, List.length_cons, List.length_nil, dats, trees, lsd, fin, ables_map, views_map', ables_nil, views_nil, ables_cons, views_cons, filter_true', atI_c0, atI_c1, atI_c2, atI_nil, sz_0, sz_1, sz_2, sz_3, sz_4, sz_5, sz_6, sz_7, sz_8, sz_9, sz_10, sz_11, sz_12, sz_13, sz_14, sz_15, pEq_lit, pNe_lit, pIn_2, pIn_3, pIn_4, pNotIn_3, pNotIn_4, pEq_int, pNe_int, okD_lit, okD_int, okD_non, okD_bl]
  | .thn p q, s, t, h, hn, hd => fun k ob v hv hk => by
    simp only [typ] at h
    simp only [pd] at hd
    split at h
    · rename_i a b c e h1 h2
      split at h
      · rename_i hbc
        subst hbc
        cases h
        have nn := typ_n p _ _ h1
        simp only [ph, pd] at hk
        obtain ⟨k, rfl⟩ : ∃ k', k = k' + 1 := ⟨k - 1, by omega⟩
        obtain ⟨x1, e1⟩ := lawdone_ok p _ _ h1 hn (by omega) k ob v hv (by omega)
        obtain ⟨x2, e2⟩ := lawdone_ok q _ _ h2 (by omega) (by omega) k (ob ++ x1) _ ((iso p _ _ h1).1 v hv).1 (by omega)
        refine ⟨x1 ++ x2, ?_⟩
        rw [Fk_law_done, fnD_fin]
        simp only [List.map_cons, List.map_nil, List.replicate, List.cons_append, List.nil_append]
        simp only [List.append_assoc] at e2
        simp [m_law_done, P.d, run, sSeq, sIf, sAsg, sAsgT, sAug, sPar, sFor, sForget, sRet, sRetN, sAppend, sExtend, sNext, sBrk, sCont, sDrop, appv, isLst, gB, bv, gNp, npv, gOp, gUn, gVar, gC, gCB, gFz, fzv, gTru, tru, gAndT, gOrT, gNotT, gAnd, gOr, gNot, gIf, PL.gTup, gLst, gIsi, gIsi2, tyN_non, tyN_bl, tyN_int, tyN_str, tyN_tup, tyN_lst, tyN_tl, gSl, oNone, oSome, intv, aNil, aCons, iRange1, iRange2, rng1, rng2, iOf, itv, bLen, bAbs, bInt, bTuple, bList, lenT, pI, pAdd, pIx4, pIx, pDGet, dctAt, dat, look, tgName, forgets, retv, gCall, T.able, T.view, List.getElem?_cons_zero, List.getElem?_cons_succ, List.set_cons_zero, List.set_cons_succ, R.bind_ok, R.bindO_ok, List.length_cons, List.length_nil, dats, trees, lsd, fin, ables_map, views_map', ables_nil, views_nil, ables_cons, views_cons, filter_true', atI_c0, atI_c1, atI_c2, atI_nil, sz_0, sz_1, sz_2, sz_3, sz_4, sz_5, sz_6, sz_7, sz_8, sz_9, sz_10, sz_11, sz_12, sz_13, sz_14, sz_15, pEq_lit, pNe_lit, pIn_2, pIn_3, pIn_4, pNotIn_3, pNotIn_4, pEq_int, pNe_int, okD_lit, okD_int, okD_non, okD_bl, e1, e2]
      · cases h
    · cases h
  | .eth p q, s, t, h, hn, hd => fun k ob v hv hk => by
    simp only [typ] at h
    simp only [pd] at hd
    split at h
    · rename_i a b c e h1 h2
      cases h
      obtain ⟨l1, l2⟩ := n_le_sum a c
      simp only [ph, pd] at hk
      obtain ⟨k, rfl⟩ : ∃ k', k = k' + 1 := ⟨k - 1, by omega⟩
      rcases m_sum.mp hv with ⟨x, hx, rfl⟩ | ⟨x, hx, rfl⟩
      · obtain ⟨x1, e1⟩ := lawdone_ok p _ _ h1 (by omega) (by omega) k ob x hx (by omega)
        refine ⟨x1, ?_⟩
        rw [Fk_law_done, fnD_fin, run_e_l]
        simp only [List.map_cons, List.map_nil, List.replicate, List.cons_append, List.nil_append]
        simp [m_law_done, P.d, lf, rt, sSeq, sIf, sAsg, sAsgT, sAug, sPar, sFor, sForget, sRet, sRetN, sAppend, sExtend, sNext, sBrk, sCont, sDrop, appv, isLst, gB, bv, gNp, npv, gOp, gUn, gVar, gC, gCB, gFz, fzv, gTru, tru, gAndT, gOrT, gNotT, gAnd, gOr, gNot, gIf, PL.gTup, gLst, gIsi, gIsi2, tyN_non, tyN_bl, tyN_int, tyN_str, tyN_tup, tyN_lst, tyN_tl, gSl, oNone, oSome, intv, aNil, aCons, iRange1, iRange2, rng1, rng2, iOf, itv, bLen, bAbs, bInt, bTuple, bList, lenT, pI, pAdd, pIx4, pIx, pDGet, dctAt, dat, look, tgName, forgets, retv, gCall, T.able, T.view, List.getElem?_cons_zero, List.getElem?_cons_succ, List.set_cons_zero, List.set_cons_succ, R.bind_ok, R.bindO_ok, List.length_cons, List.length_nil, dats, trees, lsd, fin, ables_map, views_map', ables_nil, views_nil, ables_cons, views_cons, filter_true', atI_c0, atI_c1, atI_c2, atI_nil, sz_0, sz_1, sz_2, sz_3, sz_4, sz_5, sz_6, sz_7, sz_8, sz_9, sz_10, sz_11, sz_12, sz_13, sz_14, sz_15, pEq_lit, pNe_lit, pIn_2, pIn_3, pIn_4, pNotIn_3, pNotIn_4, pEq_int, pNe_int, okD_lit, okD_int, okD_non, okD_bl, e1]
      · obtain ⟨x1, e1⟩ := lawdone_ok q _ _ h2 (by omega) (by omega) k ob x hx (by omega)
        refine ⟨x1, ?_⟩
        rw [Fk_law_done, fnD_fin, run_e_r]
        simp only [List.map_cons, List.map_nil, List.replicate, List.cons_append, List.nil_append]
        simp [m_law_done, P.d, lf, rt, sSeq, sIf, sAsg, sAsgT, sAug, sPar, sFor, sForget, sRet, sRetN, sAppend, sExtend, sNext, sBrk, sCont, sDrop, appv, isLst, gB, bv, gNp, npv, gOp, gUn, gVar, gC, gCB, gFz, fzv, gTru, tru, gAndT, gOrT, gNotT, gAnd, gOr, gNot, gIf, PL.gTup, gLst, gIsi, gIsi2, tyN_non, tyN_bl, tyN_int, tyN_str, tyN_tup, tyN_lst, tyN_tl, gSl, oNone, oSome, intv, aNil, aCons, iRange1, iRange2, rng1, rng2, iOf, itv, bLen, bAbs, bInt, bTuple, bList, lenT, pI, pAdd, pIx4, pIx, pDGet, dctAt, dat, look, tgName, forgets, retv, gCall, T.able, T.view, List.getElem?_cons_zero, List.getElem?_cons_succ, List.set_cons_zero, List.set_cons_succ, R.bind_ok, R.bindO_ok, List.length_cons, List.length_nil, dats, trees, lsd, fin, ables_map, views_map', ables_nil, views_nil, ables_cons, views_cons, filter_true', atI_c0, atI_c1, atI_c2, atI_nil, sz_0, sz_1, sz_2, sz_3, sz_4, sz_5, sz_6, sz_7, sz_8, sz_9, sz_10, sz_11, sz_12, sz_13, sz_14, sz_15, pEq_lit, pNe_lit, pIn_2, pIn_3, pIn_4, pNotIn_3, pNotIn_4, pEq_int, pNe_int, okD_lit, okD_int, okD_non, okD_bl, e1]
    · cases h
  | .bth p q, s, t, h, hn, hd => fun k ob v hv hk => by
    simp only [typ] at h
    simp only [pd] at hd
    split at h
    · rename_i a b c e h1 h2
      cases h
      obtain ⟨l1, l2⟩ := n_le_pair a c
      simp only [ph, pd] at hk
      obtain ⟨k, rfl⟩ : ∃ k', k = k' + 1 := ⟨k - 1, by omega⟩
      obtain ⟨x, hx, y, hy, rfl⟩ := m_pair.mp hv
      obtain ⟨x1, e1⟩ := lawdone_ok p _ _ h1 (by omega) (by omega) k ob x hx (by omega)
      obtain ⟨x2, e2⟩ := lawdone_ok q _ _ h2 (by omega) (by omega) k (ob ++ x1) y hy (by omega)
      refine ⟨x1 ++ x2, ?_⟩
      rw [Fk_law_done, fnD_fin]
      simp only [List.map_cons, List.map_nil, List.replicate, List.cons_append, List.nil_append]
      simp only [List.append_assoc] at e2
      simp [m_law_done, P.d, run, pr, at0, at1, sSeq, sIf, sAsg, sAsgT, sAug, sPar, sFor, sForget, sRet, sRetN, sAppend, sExtend, sNext, sBrk, sCont, sDrop, appv, isLst, gB, bv, gNp, npv, gOp, gUn, gVar, gC, gCB, gFz, fzv, gTru, tru, gAndT, gOrT, gNotT, gAnd, gOr, gNot, gIf, PL.gTup, gLst, gIsi, gIsi2, tyN_non, tyN_bl, tyN_int, tyN_str, tyN_tup, tyN_lst, tyN_tl, gSl, oNone, oSome, intv, aNil, aCons, iRange1, iRange2, rng1, rng2, iOf, itv, bLen, bAbs, bInt, bTuple, bList, lenT, pI, pAdd, pIx4, pIx, pDGet, dctAt, dat, look, tgName, forgets, retv, gCall, T.able, T.view, List.getElem?_cons_zero, List.getElem?_cons_succ, List.set_cons_zero, List.set_cons_succ, R.bind_ok, R.bindO_ok, List.length_cons, List.length_nil, dats, trees, lsd, fin, ables_map, views_map', ables_nil, views_nil, ables_cons, views_cons, filter_true', atI_c0, atI_c1, atI_c2, atI_nil, sz_0, sz_1, sz_2, sz_3, sz_4, sz_5, sz_6, sz_7, sz_8, sz_9, sz_10, sz_11, sz_12, sz_13, sz_14, sz_15, pEq_lit, pNe_lit, pIn_2, pIn_3, pIn_4, pNotIn_3, pNotIn_4, pEq_int, pNe_int, okD_lit, okD_int, okD_non, okD_bl, e1, e2]
    · cases h
  | .und p, s, t, h, hn, hd => fun k ob v hv hk => by
    simp only [typ, Option.map_eq_some_iff] at h
    simp only [pd] at hd
    obtain ⟨⟨a, b⟩, h1, h2⟩ := h
    cases h2
    have hn : b.n ≤ 1000 := hn
    have hv : v ∈ b.vals := hv
    have nn := typ_n p _ _ h1
    have dd := typ_dep p _ _ h1
    simp only [ph, pd] at hk
    obtain ⟨k, rfl⟩ : ∃ k', k = k' + 1 := ⟨k - 1, by omega⟩
    have ih := lawdone_ok p _ _ h1 (by omega) hd
    obtain ⟨i1, i2⟩ := iso p _ _ h1
    have lt := law_types_ok p k ob (by omega) hd
    rw [h1, tyD_s] at lt
    have lv := lawvals_ok a k ob (by omega) (by omega)
    have vl := vals_len a
    have C := compGo_gen (own := [3]) (tg := tgName 3) (gt := gB (gOp pEq (gCall (Fk k 17) (aCons (gFz (gOp pIx4 (gVar 0) (gC (.int 1)))) (aCons (gFz (gVar 3)) aNil))) (gVar 1))) (ge := gVar 3) (fun x => eqD (run p x) v) T.fz (fun s => ∃ ext, s = ⟨[.fz (.tup [.str "undo", p.d]), .fz v, .fz (.str "undo"), .hole], ob ++ ext⟩) a.vals [] ⟨[.fz (.tup [.str "undo", p.d]), .fz v, .fz (.str "undo"), .hole], ob⟩ (fun x hx s hs => by
      obtain ⟨ext, rfl⟩ := hs
      obtain ⟨x1, e1⟩ := ih k (ob ++ ext) x hx (by omega)
      have eq := fun s => pEq_fz (s := s) (a := run p x) (b := v) (val64 (t := b) (by omega) (i1 x hx).1) (val64 (t := b) (by omega) hv)
      refine ⟨⟨[.fz (.tup [.str "undo", p.d]), .fz v, .fz (.str "undo"), .fz x], ob ++ ext⟩, ⟨[.fz (.tup [.str "undo", p.d]), .fz v, .fz (.str "undo"), .fz x], ob ++ ext ++ x1⟩, rfl, ?_, fun _ => rfl, ext ++ x1, by simp [forgets]⟩
      simp only [List.append_assoc] at e1 ⊢
      simp [sSeq, sIf, sAsg, sAsgT, sAug, sPar, sFor, sForget, sRet, sRetN, sAppend, sExtend, sNext, sBrk, sCont, sDrop, appv, isLst, gB, bv, gNp, npv, gOp, gUn, gVar, gC, gCB, gFz, fzv, gTru, tru, gAndT, gOrT, gNotT, gAnd, gOr, gNot, gIf, PL.gTup, gLst, gIsi, gIsi2, tyN_non, tyN_bl, tyN_int, tyN_str, tyN_tup, tyN_lst, tyN_tl, gSl, oNone, oSome, intv, aNil, aCons, iRange1, iRange2, rng1, rng2, iOf, itv, bLen, bAbs, bInt, bTuple, bList, lenT, pI, pAdd, pIx4, pIx, pDGet, dctAt, dat, look, tgName, forgets, retv, gCall, T.able, T.view, List.getElem?_cons_zero, List.getElem?_cons_succ, List.set_cons_zero, List.set_cons_succ, R.bind_ok, R.bindO_ok, List.length_cons, List.length_nil, dats, trees, lsd, fin, ables_map, views_map', ables_nil, views_nil, ables_cons, views_cons, filter_true', atI_c0, atI_c1, atI_c2, atI_nil, sz_0, sz_1, sz_2, sz_3, sz_4, sz_5, sz_6, sz_7, sz_8, sz_9, sz_10, sz_11, sz_12, sz_13, sz_14, sz_15, pEq_lit, pNe_lit, pIn_2, pIn_3, pIn_4, pNotIn_3, pNotIn_4, pEq_int, pNe_int, okD_lit, okD_int, okD_non, okD_bl, e1, eq]) ⟨[], by simp⟩ (by simp only [List.length_nil]; exact sz_le (by omega))
    obtain ⟨s', c, ext, rfl⟩ := C
    have mem : bk p v ∈ a.vals.filter (fun x => eqD (run p x) v) := by
      obtain ⟨m1, m2⟩ := i2 v hv
      refine List.mem_filter.mpr ⟨m1, ?_⟩
      rw [m2]
      exact (val_eq b v v hv hv).mpr rfl
    have only : ∀ x ∈ a.vals.filter (fun x => eqD (run p x) v), x = bk p v := fun x hx => by
      obtain ⟨m1, m2⟩ := List.mem_filter.mp hx
      have := (val_eq b _ _ (i1 x m1).1 hv).mp m2
      rw [← this, (i1 x m1).2]
    generalize a.vals.filter (fun x => eqD (run p x) v) = ks at c mem only
    have hk0 : ∃ ks', ks = bk p v :: ks' := by
      cases ks with
      | nil => cases mem
      | cons x ks' => exact ⟨ks', by rw [only x (List.mem_cons_self ..)]⟩
    obtain ⟨ks', rfl⟩ := hk0
    have ho : holes [3] ⟨[.fz (.tup [.str "undo", p.d]), .fz v, .fz (.str "undo"), .hole], ob⟩ = true := rfl
    refine ⟨ext, ?_⟩
    rw [List.nil_append, List.map_cons] at c
    rw [Fk_law_done, fnD_fin]
    simp only [List.map_cons, List.map_nil, List.replicate, List.cons_append, List.nil_append]
    simp [m_law_done, P.d, run, sSeq, sIf, sAsg, sAsgT, sAug, sPar, sFor, sForget, sRet, sRetN, sAppend, sExtend, sNext, sBrk, sCont, sDrop, appv, isLst, gB, bv, gNp, npv, gOp, gUn, gVar, gC, gCB, gFz, fzv, gTru, tru, gAndT, gOrT, gNotT, gAnd, gOr, gNot, gIf, PL.gTup, gLst, gIsi, gIsi2, tyN_non, tyN_bl, tyN_int, tyN_str, tyN_tup, tyN_lst, tyN_tl, gSl, oNone, oSome, intv, aNil, aCons, iRange1, iRange2, rng1, rng2, iOf, itv, bLen, bAbs, bInt, bTuple, bList, lenT, pI, pAdd, pIx4, pIx, pDGet, dctAt, dat, look, tgName, forgets, retv, gCall, T.able, T.view, List.getElem?_cons_zero, List.getElem?_cons_succ, List.set_cons_zero, List.set_cons_succ, R.bind_ok, R.bindO_ok, List.length_cons, List.length_nil, dats, trees, lsd, fin, ables_map, views_map', ables_nil, views_nil, ables_cons, views_cons, filter_true', atI_c0, atI_c1, atI_c2, atI_nil, sz_0, sz_1, sz_2, sz_3, sz_4, sz_5, sz_6, sz_7, sz_8, sz_9, sz_10, sz_11, sz_12, sz_13, sz_14, sz_15, pEq_lit, pNe_lit, pIn_2, pIn_3, pIn_4, pNotIn_3, pNotIn_4, pEq_int, pNe_int, okD_lit, okD_int, okD_non, okD_bl, lt, lv, gComp, ho, c]
end L_k62
set_option Elab.async false
set_option linter.all false
set_option maxRecDepth 100000
set_option autoImplicit false
set_option maxHeartbeats 0
namespace L_k62
open PySem PySem.Spec PyProof.Rows L2 PL
theorem plain_ok : ∀ (p : P) (k : Nat) (ob : List T), ph p < k → Fk k 18 [p.d] ob = .ok (.fz (.bl (plain p))) ob
  | .thn p q, k + 1, ob, hk => by
    simp only [ph] at hk
    have e1 := plain_ok p k ob (by omega)
    have e2 := plain_ok q k ob (by omega)
    rw [Fk_law_is_plain, fnD_fin]
    simp only [List.map_cons, List.map_nil, List.replicate, List.cons_append, List.nil_append]
    cases hp : plain p <;> rw [hp] at e1 <;> simp [m_law_is_plain, P.d, plain, hp, sSeq, sIf, sAsg, sAsgT, sAug, sPar, sFor, sForget, sRet, sRetN, sAppend, sExtend, sNext, sBrk, sCont, sDrop, appv, isLst, gB, bv, gNp, npv, gOp, gUn, gVar, gC, gCB, gFz, fzv, gTru, tru, gAndT, gOrT, gNotT, gAnd, gOr, gNot, gIf, PL.gTup, gLst, gIsi, gIsi2, tyN_non, tyN_bl, tyN_int, tyN_str, tyN_tup, tyN_lst, tyN_tl, gSl, oNone, oSome, intv, aNil, aCons, iRange1, iRange2, rng1, rng2, iOf, itv, bLen, bAbs, bInt, bTuple, bList, lenT, pI, pAdd, pIx4, pIx, pDGet, dctAt, dat, look, tgName, forgets, retv, gCall, T.able, T.view, List.getElem?_cons_zero, List.getElem?_cons_succ, List.set_cons_zero, List.set_cons_succ, R.bind_ok, R.bindO_ok, List.length_cons, List.length_nil, dats, trees, lsd, fin, ables_map, views_map', ables_nil, views_nil, ables_cons, views_cons, filter_true', atI_c0, atI_c1, atI_c2, atI_nil, sz_0, sz_1, sz_2, sz_3, sz_4, sz_5, sz_6, sz_7, sz_8, sz_9, sz_10, sz_11, sz_12, sz_13, sz_14, sz_15, pEq_lit, pNe_lit, pIn_2, pIn_3, pIn_4, pNotIn_3, pNotIn_4, pEq_int, pNe_int, okD_lit, okD_int, okD_non, okD_bl, e1, e2]
  | .thn _ _, 0, _, hk => by omega
  | .eth p q, k + 1, ob, hk => by
    simp only [ph] at hk
    have e1 := plain_ok p k ob (by omega)
    have e2 := plain_ok q k ob (by omega)
    rw [Fk_law_is_plain, fnD_fin]
    simp only [List.map_cons, List.map_nil, List.replicate, List.cons_append, List.nil_append]
    cases hp : plain p <;> rw [hp] at e1 <;> simp [m_law_is_plain, P.d, plain, hp, sSeq, sIf, sAsg, sAsgT, sAug, sPar, sFor, sForget, sRet, sRetN, sAppend, sExtend, sNext, sBrk, sCont, sDrop, appv, isLst, gB, bv, gNp, npv, gOp, gUn, gVar, gC, gCB, gFz, fzv, gTru, tru, gAndT, gOrT, gNotT, gAnd, gOr, gNot, gIf, PL.gTup, gLst, gIsi, gIsi2, tyN_non, tyN_bl, tyN_int, tyN_str, tyN_tup, tyN_lst, tyN_tl, gSl, oNone, oSome, intv, aNil, aCons, iRange1, iRange2, rng1, rng2, iOf, itv, bLen, bAbs, bInt, bTuple, bList, lenT, pI, pAdd, pIx4, pIx, pDGet, dctAt, dat, look, tgName, forgets, retv, gCall, T.able, T.view, List.getElem?_cons_zero, List.getElem?_cons_succ, List.set_cons_zero, List.set_cons_succ, R.bind_ok, R.bindO_ok, List.length_cons, List.length_nil, dats, trees, lsd, fin, ables_map, views_map', ables_nil, views_nil, ables_cons, views_cons, filter_true', atI_c0, atI_c1, atI_c2, atI_nil, sz_0, sz_1, sz_2, sz_3, sz_4, sz_5, sz_6, sz_7, sz_8, sz_9, sz_10, sz_11, sz_12, sz_13, sz_14, sz_15, pEq_lit, pNe_lit, pIn_2, pIn_3, pIn_4, pNotIn_3, pNotIn_4, pEq_int, pNe_int, okD_lit, okD_int, okD_non, okD_bl, e1, e2]
  | .eth _ _, 0, _, hk => by omega
  | .bth p q, k + 1, ob, hk => by
    simp only [ph] at hk
    have e1 := plain_ok p k ob (by omega)
    have e2 := plain_ok q k ob (by omega)
    rw [Fk_law_is_plain, fnD_fin]
    simp only [List.map_cons, List.map_nil, List.replicate, List.cons_append, List.nil_append]
    cases hp : plain p <;> rw [hp] at e1 <;> simp [m_law_is_plain, P.d, plain, hp, sSeq, sIf, sAsg, sAsgT, sAug, sPar, sFor, sForget, sRet, sRetN, sAppend, sExtend, sNext, sBrk, sCont, sDrop, appv, isLst, gB, bv, gNp, npv, gOp, gUn, gVar, gC, gCB, gFz, fzv, gTru, tru, gAndT, gOrT, gNotT, gAnd, gOr, gNot, gIf, PL.gTup, gLst, gIsi, gIsi2, tyN_non, tyN_bl, tyN_int, tyN_str, tyN_tup, tyN_lst, tyN_tl, gSl, oNone, oSome, intv, aNil, aCons, iRange1, iRange2, rng1, rng2, iOf, itv, bLen, bAbs, bInt, bTuple, bList, lenT, pI, pAdd, pIx4, pIx, pDGet, dctAt, dat, look, tgName, forgets, retv, gCall, T.able, T.view, List.getElem?_cons_zero, List.getElem?_cons_succ, List.set_cons_zero, List.set_cons_succ, R.bind_ok, R.bindO_ok, List.length_cons, List.length_nil, dats, trees, lsd, fin, ables_map, views_map', ables_nil, views_nil, ables_cons, views_cons, filter_true', atI_c0, atI_c1, atI_c2, atI_nil, sz_0, sz_1, sz_2, sz_3, sz_4, sz_5, sz_6, sz_7, sz_8, sz_9, sz_10, sz_11, sz_12, sz_13, sz_14, sz_15, pEq_lit, pNe_lit, pIn_2, pIn_3, pIn_4, pNotIn_3, pNotIn_4, pEq_int, pNe_int, okD_lit, okD_int, okD_non, okD_bl, e1, e2]
  | .bth _ _, 0, _, hk => by omega
  | .und p, k + 1, ob, hk => by
    rw [Fk_law_is_plain, fnD_fin]
    simp only [List.map_cons, List.map_nil, List.replicate, List.cons_append, List.nil_append]
    cases p <;> simp [m_law_is_plain, P.d, plain, sSeq, sIf, sAsg, sAsgT, sAug, sPar, sFor, sForget, sRet, sRetN, sAppend, sExtend, sNext, sBrk, sCont, sDrop, appv, isLst, gB, bv, gNp, npv, gOp, gUn, gVar, gC, gCB, gFz, fzv, gTru, tru, gAndT, gOrT, gNotT, gAnd, gOr, gNot, gIf, PL.gTup, gLst, gIsi, gIsi2, tyN_non, tyN_bl, tyN_int, tyN_str, tyN_tup, tyN_lst, tyN_tl, gSl, oNone, oSome, intv, aNil, aCons, iRange1, iRange2, rng1, rng2, iOf, itv, bLen, bAbs, bInt, bTuple, bList, lenT, pI, pAdd, pIx4, pIx, pDGet, dctAt, dat, look, tgName, forgets, retv, gCall, T.able, T.view, List.getElem?_cons_zero, List.getElem?_cons_succ, List.set_cons_zero, List.set_cons_succ, R.bind_ok, R.bindO_ok, List.length_cons, List.length_nil, dats, trees, lsd, fin, ables_map, views_map', ables_nil, views_nil, ables_cons, views_cons, filter_true', atI_c0, atI_c1, atI_c2, atI_nil, sz_0, sz_1, sz_2, sz_3, sz_4, sz_5, sz_6, sz_7, sz_8, sz_9, sz_10, sz_11, sz_12, sz_13, sz_14, sz_15, pEq_lit, pNe_lit, pIn_2, pIn_3, pIn_4, pNotIn_3, pNotIn_4, pEq_int, pNe_int, okD_lit, okD_int, okD_non, okD_bl]
  | .und _, 0, _, hk => by omega
  | .same a, k + 1, ob, hk => by
    rw [Fk_law_is_plain, fnD_fin]
    simp only [List.map_cons, List.map_nil, List.replicate, List.cons_append, List.nil_append]
    simp [m_law_is_plain, P.d, plain, sSeq, sIf, sAsg, sAsgT, sAug, sPar, sFor, sForget, sRet, sRetN, sAppend, sExtend, sNext, sBrk, sCont, sDrop, appv, isLst, gB, bv, gNp, npv, gOp, gUn, gVar, gC, gCB, gFz, fzv, gTru, tru, gAndT, gOrT, gNotT, gAnd, gOr, gNot, gIf, PL.gTup, gLst, gIsi, gIsi2, tyN_non, tyN_bl, tyN_int, tyN_str, tyN_tup, tyN_lst, tyN_tl, gSl, oNone, oSome, intv, aNil, aCons, iRange1, iRange2, rng1, rng2, iOf, itv, bLen, bAbs, bInt, bTuple, bList, lenT, pI, pAdd, pIx4, pIx, pDGet, dctAt, dat, look, tgName, forgets, retv, gCall, T.able, T.view, List.getElem?_cons_zero, List.getElem?_cons_succ, List.set_cons_zero, List.set_cons_succ, R.bind_ok, R.bindO_ok, List.length_cons, List.length_nil, dats, trees, lsd, fin, ables_map, views_map', ables_nil, views_nil, ables_cons, views_cons, filter_true', atI_c0, atI_c1, atI_c2, atI_nil, sz_0, sz_1, sz_2, sz_3, sz_4, sz_5, sz_6, sz_7, sz_8, sz_9, sz_10, sz_11, sz_12, sz_13, sz_14, sz_15, pEq_lit, pNe_lit, pIn_2, pIn_3, pIn_4, pNotIn_3, pNotIn_4, pEq_int, pNe_int, okD_lit, okD_int, okD_non, okD_bl]
  | .same _, 0, _, hk => by omega
  | .drop a, k + 1, ob, hk => by
    rw [Fk_law_is_plain, fnD_fin]
    simp only [List.map_cons, List.map_nil, List.replicate, List.cons_append, List.nil_append]
    simp [m_law_is_plain, P.d, plain, sSeq, sIf, sAsg, sAsgT, sAug, sPar, sFor, sForget, sRet, sRetN, sAppend, sExtend, sNext, sBrk, sCont, sDrop, appv, isLst, gB, bv, gNp, npv, gOp, gUn, gVar, gC, gCB, gFz, fzv, gTru, tru, gAndT, gOrT, gNotT, gAnd, gOr, gNot, gIf, PL.gTup, gLst, gIsi, gIsi2, tyN_non, tyN_bl, tyN_int, tyN_str, tyN_tup, tyN_lst, tyN_tl, gSl, oNone, oSome, intv, aNil, aCons, iRange1, iRange2, rng1, rng2, iOf, itv, bLen, bAbs, bInt, bTuple, bList, lenT, pI, pAdd, pIx4, pIx, pDGet, dctAt, dat, look, tgName, forgets, retv, gCall, T.able, T.view, List.getElem?_cons_zero, List.getElem?_cons_succ, List.set_cons_zero, List.set_cons_succ, R.bind_ok, R.bindO_ok, List.length_cons, List.length_nil, dats, trees, lsd, fin, ables_map, views_map', ables_nil, views_nil, ables_cons, views_cons, filter_true', atI_c0, atI_c1, atI_c2, atI_nil, sz_0, sz_1, sz_2, sz_3, sz_4, sz_5, sz_6, sz_7, sz_8, sz_9, sz_10, sz_11, sz_12, sz_13, sz_14, sz_15, pEq_lit, pNe_lit, pIn_2, pIn_3, pIn_4, pNotIn_3, pNotIn_4, pEq_int, pNe_int, okD_lit, okD_int, okD_non, okD_bl]
  | .drop _, 0, _, hk => by omega
  | .turnS a b, k + 1, ob, hk => by
    rw [Fk_law_is_plain, fnD_fin]
    simp only [List.map_cons, List.map_nil, List.replicate, List.cons_append, List.nil_append]
    simp [m_law_is_plain, P.d, plain, sSeq, sIf, sAsg, sAsgT, sAug, sPar, sFor, sForget, sRet, sRetN, sAppend, sExtend, sNext, sBrk, sCont, sDrop, appv, isLst, gB, bv, gNp, npv, gOp, gUn, gVar, gC, gCB, gFz, fzv, gTru, tru, gAndT, gOrT, gNotT, gAnd, gOr, gNot, gIf, PL.gTup, gLst, gIsi, gIsi2, tyN_non, tyN_bl, tyN_int, tyN_str, tyN_tup, tyN_lst, tyN_tl, gSl, oNone, oSome, intv, aNil, aCons, iRange1, iRange2, rng1, rng2, iOf, itv, bLen, bAbs, bInt, bTuple, bList, lenT, pI, pAdd, pIx4, pIx, pDGet, dctAt, dat, look, tgName, forgets, retv, gCall, T.able, T.view, List.getElem?_cons_zero, List.getElem?_cons_succ, List.set_cons_zero, List.set_cons_succ, R.bind_ok, R.bindO_ok, List.length_cons, List.length_nil, dats, trees, lsd, fin, ables_map, views_map', ables_nil, views_nil, ables_cons, views_cons, filter_true', atI_c0, atI_c1, atI_c2, atI_nil, sz_0, sz_1, sz_2, sz_3, sz_4, sz_5, sz_6, sz_7, sz_8, sz_9, sz_10, sz_11, sz_12, sz_13, sz_14, sz_15, pEq_lit, pNe_lit, pIn_2, pIn_3, pIn_4, pNotIn_3, pNotIn_4, pEq_int, pNe_int, okD_lit, okD_int, okD_non, okD_bl]
  | .turnS _ _, 0, _, hk => by omega
  | .turnP a b, k + 1, ob, hk => by
    rw [Fk_law_is_plain, fnD_fin]
    simp only [List.map_cons, List.map_nil, List.replicate, List.cons_append, List.nil_append]
    simp [m_law_is_plain, P.d, plain, sSeq, sIf, sAsg, sAsgT, sAug, sPar, sFor, sForget, sRet, sRetN, sAppend, sExtend, sNext, sBrk, sCont, sDrop, appv, isLst, gB, bv, gNp, npv, gOp, gUn, gVar, gC, gCB, gFz, fzv, gTru, tru, gAndT, gOrT, gNotT, gAnd, gOr, gNot, gIf, PL.gTup, gLst, gIsi, gIsi2, tyN_non, tyN_bl, tyN_int, tyN_str, tyN_tup, tyN_lst, tyN_tl, gSl, oNone, oSome, intv, aNil, aCons, iRange1, iRange2, rng1, rng2, iOf, itv, bLen, bAbs, bInt, bTuple, bList, lenT, pI, pAdd, pIx4, pIx, pDGet, dctAt, dat, look, tgName, forgets, retv, gCall, T.able, T.view, List.getElem?_cons_zero, List.getElem?_cons_succ, List.set_cons_zero, List.set_cons_succ, R.bind_ok, R.bindO_ok, List.length_cons, List.length_nil, dats, trees, lsd, fin, ables_map, views_map', ables_nil, views_nil, ables_cons, views_cons, filter_true', atI_c0, atI_c1, atI_c2, atI_nil, sz_0, sz_1, sz_2, sz_3, sz_4, sz_5, sz_6, sz_7, sz_8, sz_9, sz_10, sz_11, sz_12, sz_13, sz_14, sz_15, pEq_lit, pNe_lit, pIn_2, pIn_3, pIn_4, pNotIn_3, pNotIn_4, pEq_int, pNe_int, okD_lit, okD_int, okD_non, okD_bl]
  | .turnP _ _, 0, _, hk => by omega
  | .spread a b c, k + 1, ob, hk => by
    rw [Fk_law_is_plain, fnD_fin]
    simp only [List.map_cons, List.map_nil, List.replicate, List.cons_append, List.nil_append]
    simp [m_law_is_plain, P.d, plain, sSeq, sIf, sAsg, sAsgT, sAug, sPar, sFor, sForget, sRet, sRetN, sAppend, sExtend, sNext, sBrk, sCont, sDrop, appv, isLst, gB, bv, gNp, npv, gOp, gUn, gVar, gC, gCB, gFz, fzv, gTru, tru, gAndT, gOrT, gNotT, gAnd, gOr, gNot, gIf, PL.gTup, gLst, gIsi, gIsi2, tyN_non, tyN_bl, tyN_int, tyN_str, tyN_tup, tyN_lst, tyN_tl, gSl, oNone, oSome, intv, aNil, aCons, iRange1, iRange2, rng1, rng2, iOf, itv, bLen, bAbs, bInt, bTuple, bList, lenT, pI, pAdd, pIx4, pIx, pDGet, dctAt, dat, look, tgName, forgets, retv, gCall, T.able, T.view, List.getElem?_cons_zero, List.getElem?_cons_succ, List.set_cons_zero, List.set_cons_succ, R.bind_ok, R.bindO_ok, List.length_cons, List.length_nil, dats, trees, lsd, fin, ables_map, views_map', ables_nil, views_nil, ables_cons, views_cons, filter_true', atI_c0, atI_c1, atI_c2, atI_nil, sz_0, sz_1, sz_2, sz_3, sz_4, sz_5, sz_6, sz_7, sz_8, sz_9, sz_10, sz_11, sz_12, sz_13, sz_14, sz_15, pEq_lit, pNe_lit, pIn_2, pIn_3, pIn_4, pNotIn_3, pNotIn_4, pEq_int, pNe_int, okD_lit, okD_int, okD_non, okD_bl]
  | .spread _ _ _, 0, _, hk => by omega
  | .shiftS a b c, k + 1, ob, hk => by
    rw [Fk_law_is_plain, fnD_fin]
    simp only [List.map_cons, List.map_nil, List.replicate, List.cons_append, List.nil_append]
    simp [m_law_is_plain, P.d, plain, sSeq, sIf, sAsg, sAsgT, sAug, sPar, sFor, sForget, sRet, sRetN, sAppend, sExtend, sNext, sBrk, sCont, sDrop, appv, isLst, gB, bv, gNp, npv, gOp, gUn, gVar, gC, gCB, gFz, fzv, gTru, tru, gAndT, gOrT, gNotT, gAnd, gOr, gNot, gIf, PL.gTup, gLst, gIsi, gIsi2, tyN_non, tyN_bl, tyN_int, tyN_str, tyN_tup, tyN_lst, tyN_tl, gSl, oNone, oSome, intv, aNil, aCons, iRange1, iRange2, rng1, rng2, iOf, itv, bLen, bAbs, bInt, bTuple, bList, lenT, pI, pAdd, pIx4, pIx, pDGet, dctAt, dat, look, tgName, forgets, retv, gCall, T.able, T.view, List.getElem?_cons_zero, List.getElem?_cons_succ, List.set_cons_zero, List.set_cons_succ, R.bind_ok, R.bindO_ok, List.length_cons, List.length_nil, dats, trees, lsd, fin, ables_map, views_map', ables_nil, views_nil, ables_cons, views_cons, filter_true', atI_c0, atI_c1, atI_c2, atI_nil, sz_0, sz_1, sz_2, sz_3, sz_4, sz_5, sz_6, sz_7, sz_8, sz_9, sz_10, sz_11, sz_12, sz_13, sz_14, sz_15, pEq_lit, pNe_lit, pIn_2, pIn_3, pIn_4, pNotIn_3, pNotIn_4, pEq_int, pNe_int, okD_lit, okD_int, okD_non, okD_bl]
  | .shiftS _ _ _, 0, _, hk => by omega
  | .shiftP a b c, k + 1, ob, hk => by
    rw [Fk_law_is_plain, fnD_fin]
    simp only [List.map_cons, List.map_nil, List.replicate, List.cons_append, List.nil_append]
    simp [m_law_is_plain, P.d, plain, sSeq, sIf, sAsg, sAsgT, sAug, sPar, sFor, sForget, sRet, sRetN, sAppend, sExtend, sNext, sBrk, sCont, sDrop, appv, isLst, gB, bv, gNp, npv, gOp, gUn, gVar, gC, gCB, gFz, fzv, gTru, tru, gAndT, gOrT, gNotT, gAnd, gOr, gNot, gIf, PL.gTup, gLst, gIsi, gIsi2, tyN_non, tyN_bl, tyN_int, tyN_str, tyN_tup, tyN_lst, tyN_tl, gSl, oNone, oSome, intv, aNil, aCons, iRange1, iRange2, rng1, rng2, iOf, itv, bLen, bAbs, bInt, bTuple, bList, lenT, pI, pAdd, pIx4, pIx, pDGet, dctAt, dat, look, tgName, forgets, retv, gCall, T.able, T.view, List.getElem?_cons_zero, List.getElem?_cons_succ, List.set_cons_zero, List.set_cons_succ, R.bind_ok, R.bindO_ok, List.length_cons, List.length_nil, dats, trees, lsd, fin, ables_map, views_map', ables_nil, views_nil, ables_cons, views_cons, filter_true', atI_c0, atI_c1, atI_c2, atI_nil, sz_0, sz_1, sz_2, sz_3, sz_4, sz_5, sz_6, sz_7, sz_8, sz_9, sz_10, sz_11, sz_12, sz_13, sz_14, sz_15, pEq_lit, pNe_lit, pIn_2, pIn_3, pIn_4, pNotIn_3, pNotIn_4, pEq_int, pNe_int, okD_lit, okD_int, okD_non, okD_bl]
  | .shiftP _ _ _, 0, _, hk => by omega
def KS : List Key := [.inr "same", .inr "turn sum", .inr "turn pair", .inr "shift sum", .inr "shift pair", .inr "spread", .inr "drop", .inr "then", .inr "either", .inr "both", .inr "undo"]
def WD : T := .dct KS [.fz (.int 2), .fz (.int 3), .fz (.int 3), .fz (.int 4), .fz (.int 4), .fz (.int 4), .fz (.int 2), .fz (.int 3), .fz (.int 3), .fz (.int 3), .fz (.int 2)]
theorem kw_0 : keyIx KS (.inr "same") = some 0 := by decide +kernel
theorem kw_1 : keyIx KS (.inr "turn sum") = some 1 := by decide +kernel
theorem kw_2 : keyIx KS (.inr "turn pair") = some 2 := by decide +kernel
theorem kw_3 : keyIx KS (.inr "shift sum") = some 3 := by decide +kernel
theorem kw_4 : keyIx KS (.inr "shift pair") = some 4 := by decide +kernel
theorem kw_5 : keyIx KS (.inr "spread") = some 5 := by decide +kernel
theorem kw_6 : keyIx KS (.inr "drop") = some 6 := by decide +kernel
theorem kw_7 : keyIx KS (.inr "then") = some 7 := by decide +kernel
theorem kw_8 : keyIx KS (.inr "either") = some 8 := by decide +kernel
theorem kw_9 : keyIx KS (.inr "both") = some 9 := by decide +kernel
theorem kw_10 : keyIx KS (.inr "undo") = some 10 := by decide +kernel
theorem pok : ∀ (p : P) (n : Nat), pd p + ph p + 2 ≤ n → okD n p.d = true
  | .thn p q, n, h => by
    simp only [pd, ph] at h
    obtain ⟨m, rfl⟩ : ∃ m, n = m + 1 := ⟨n - 1, by omega⟩
    exact okD_tup_mk (by simp) (by
      intro d hd
      simp at hd
      rcases hd with rfl | rfl | rfl
      · exact okD_lit _ _
      · exact pok p m (by omega)
      · exact pok q m (by omega))
  | .eth p q, n, h => by
    simp only [pd, ph] at h
    obtain ⟨m, rfl⟩ : ∃ m, n = m + 1 := ⟨n - 1, by omega⟩
    exact okD_tup_mk (by simp) (by
      intro d hd
      simp at hd
      rcases hd with rfl | rfl | rfl
      · exact okD_lit _ _
      · exact pok p m (by omega)
      · exact pok q m (by omega))
  | .bth p q, n, h => by
    simp only [pd, ph] at h
    obtain ⟨m, rfl⟩ : ∃ m, n = m + 1 := ⟨n - 1, by omega⟩
    exact okD_tup_mk (by simp) (by
      intro d hd
      simp at hd
      rcases hd with rfl | rfl | rfl
      · exact okD_lit _ _
      · exact pok p m (by omega)
      · exact pok q m (by omega))
  | .und p, n, h => by
    simp only [pd, ph] at h
    obtain ⟨m, rfl⟩ : ∃ m, n = m + 1 := ⟨n - 1, by omega⟩
    exact okD_tup_mk (by simp) (by
      intro d hd
      simp at hd
      rcases hd with rfl | rfl
      · exact okD_lit _ _
      · exact pok p m (by omega))
  | .same a, n, h => by
    simp only [pd, ph] at h
    obtain ⟨m, rfl⟩ : ∃ m, n = m + 2 := ⟨n - 2, by omega⟩
    exact okD_tup_mk (by simp) (by
      intro d hd
      simp at hd
      rcases hd with rfl | rfl
      · exact okD_lit _ _
      · exact ty_ok a m (by omega))
  | .drop a, n, h => by
    simp only [pd, ph] at h
    obtain ⟨m, rfl⟩ : ∃ m, n = m + 2 := ⟨n - 2, by omega⟩
    exact okD_tup_mk (by simp) (by
      intro d hd
      simp at hd
      rcases hd with rfl | rfl
      · exact okD_lit _ _
      · exact ty_ok a m (by omega))
  | .turnS a b, n, h => by
    simp only [pd, ph] at h
    obtain ⟨m, rfl⟩ : ∃ m, n = m + 2 := ⟨n - 2, by omega⟩
    exact okD_tup_mk (by simp) (by
      intro d hd
      simp at hd
      rcases hd with rfl | rfl | rfl
      · exact okD_lit _ _
      · exact ty_ok a m (by omega)
      · exact ty_ok b m (by omega))
  | .turnP a b, n, h => by
    simp only [pd, ph] at h
    obtain ⟨m, rfl⟩ : ∃ m, n = m + 2 := ⟨n - 2, by omega⟩
    exact okD_tup_mk (by simp) (by
      intro d hd
      simp at hd
      rcases hd with rfl | rfl | rfl
      · exact okD_lit _ _
      · exact ty_ok a m (by omega)
      · exact ty_ok b m (by omega))
  | .spread a b c, n, h => by
    simp only [pd, ph] at h
    obtain ⟨m, rfl⟩ : ∃ m, n = m + 2 := ⟨n - 2, by omega⟩
    exact okD_tup_mk (by simp) (by
      intro d hd
      simp at hd
      rcases hd with rfl | rfl | rfl | rfl
      · exact okD_lit _ _
      · exact ty_ok a m (by omega)
      · exact ty_ok b m (by omega)
      · exact ty_ok c m (by omega))
  | .shiftS a b c, n, h => by
    simp only [pd, ph] at h
    obtain ⟨m, rfl⟩ : ∃ m, n = m + 2 := ⟨n - 2, by omega⟩
    exact okD_tup_mk (by simp) (by
      intro d hd
      simp at hd
      rcases hd with rfl | rfl | rfl | rfl
      · exact okD_lit _ _
      · exact ty_ok a m (by omega)
      · exact ty_ok b m (by omega)
      · exact ty_ok c m (by omega))
  | .shiftP a b c, n, h => by
    simp only [pd, ph] at h
    obtain ⟨m, rfl⟩ : ∃ m, n = m + 2 := ⟨n - 2, by omega⟩
    exact okD_tup_mk (by simp) (by
      intro d hd
      simp at hd
      rcases hd with rfl | rfl | rfl | rfl
      · exact okD_lit _ _
      · exact ty_ok a m (by omega)
      · exact ty_ok b m (by omega)
      · exact ty_ok c m (by omega))
theorem p_nil (p : P) : eqD p.d (.tup []) = false := by cases p <;> simp [P.d, eqD, eqDs]
theorem pe0 (s : S) : pEq s (.tr (.lst [])) (.tr (.lst [])) = .ok (.tr (.fz (.bl true))) s := by
  have el : rd s (.tr (.lst [])) = some (.lst []) := rfl
  have ee : dEq (.lst []) (.lst []) = some true := by decide +kernel
  unfold pEq
  rw [el]
  simp only [ee]
theorem drop1 {α : Type} (xs : List α) : PL.cutD xs (some 1) none = xs.drop 1 := cutD_drop xs 1
theorem is_program_ok : ∀ (p : P) (k : Nat) (ob : List T), ph p < k → pd p + ph p ≤ 60 → ∃ ext, Fk k 19 [p.d] ob = .ok (.fz (.bl true)) (ob ++ ext)
  | .thn p q, k + 1, ob, hk, hd => by
    have en := fun s => pEq_fz (s := s) (pok (.thn p q) 64 (by omega)) (okD_nil 63)
    rw [p_nil] at en
    simp only [ph, pd] at hk hd
    have C := compGo_gen (own := [2]) (tg := tgName 2) (gt := gNotT (gTru (gCall (Fk k 19) (aCons (gFz (gVar 2)) aNil)))) (ge := gVar 2) (fun _ => false) T.fz (fun s => ∃ ext, s = ⟨[.fz (.tup [.str "then", p.d, q.d]), .fz (.int 3), .hole], ob ++ ext⟩) [p.d, q.d] [] ⟨[.fz (.tup [.str "then", p.d, q.d]), .fz (.int 3), .hole], ob ++ [WD]⟩ (fun x hx s hs => by
      obtain ⟨ext, rfl⟩ := hs
      have hx : x = p.d ∨ x = q.d := by simpa using hx
      have he : ∃ x1, Fk k 19 [x] (ob ++ ext) = .ok (.fz (.bl true)) (ob ++ ext ++ x1) := by
        rcases hx with rfl | rfl
        · exact is_program_ok p k (ob ++ ext) (by omega) (by omega)
        · exact is_program_ok q k (ob ++ ext) (by omega) (by omega)
      obtain ⟨x1, e1⟩ := he
      refine ⟨⟨[.fz (.tup [.str "then", p.d, q.d]), .fz (.int 3), .fz x], ob ++ ext⟩, ⟨[.fz (.tup [.str "then", p.d, q.d]), .fz (.int 3), .fz x], ob ++ ext ++ x1⟩, rfl, ?_, (fun h => nomatch h), ext ++ x1, by simp [forgets]⟩
      simp only [List.append_assoc] at e1 ⊢
      simp [sSeq, sIf, sAsg, sAsgT, sAug, sPar, sFor, sForget, sRet, sRetN, sAppend, sExtend, sNext, sBrk, sCont, sDrop, appv, isLst, gB, bv, gNp, npv, gOp, gUn, gVar, gC, gCB, gFz, fzv, gTru, tru, gAndT, gOrT, gNotT, gAnd, gOr, gNot, gIf, PL.gTup, gLst, gIsi, gIsi2, tyN_non, tyN_bl, tyN_int, tyN_str, tyN_tup, tyN_lst, tyN_tl, gSl, oNone, oSome, intv, aNil, aCons, iRange1, iRange2, rng1, rng2, iOf, itv, bLen, bAbs, bInt, bTuple, bList, lenT, pI, pAdd, pIx4, pIx, pDGet, dctAt, dat, look, tgName, forgets, retv, gCall, T.able, T.view, List.getElem?_cons_zero, List.getElem?_cons_succ, List.set_cons_zero, List.set_cons_succ, R.bind_ok, R.bindO_ok, List.length_cons, List.length_nil, dats, trees, lsd, fin, ables_map, views_map', ables_nil, views_nil, ables_cons, views_cons, filter_true', atI_c0, atI_c1, atI_c2, atI_nil, sz_0, sz_1, sz_2, sz_3, sz_4, sz_5, sz_6, sz_7, sz_8, sz_9, sz_10, sz_11, sz_12, sz_13, sz_14, sz_15, e1]) ⟨[WD], rfl⟩ (by simp only [List.length_nil]; exact sz_le (by simp))
    obtain ⟨s', e, ext, rfl⟩ := C
    refine ⟨ext, ?_⟩
    have ho : holes [2] ⟨[.fz (.tup [.str "then", p.d, q.d]), .fz (.int 3), .hole], ob ++ [WD]⟩ = true := rfl
    have ff : ([p.d, q.d].filter fun _ => false) = [] := rfl
    rw [ff] at e
    simp only [List.map_nil, List.append_nil] at e
    rw [Fk_law_is_program, fnD_fin]
    simp only [List.map_cons, List.map_nil, List.replicate, List.cons_append, List.nil_append]
    simp only [P.d] at en ⊢
    unfold WD KS at e ho
    have kw := kw_7
    unfold KS at kw
    simp [m_law_is_program, sSeq, sIf, sAsg, sAsgT, sAug, sPar, sFor, sForget, sRet, sRetN, sAppend, sExtend, sNext, sBrk, sCont, sDrop, appv, isLst, gB, bv, gNp, npv, gOp, gUn, gVar, gC, gCB, gFz, fzv, gTru, tru, gAndT, gOrT, gNotT, gAnd, gOr, gNot, gIf, PL.gTup, gLst, gIsi, gIsi2, tyN_non, tyN_bl, tyN_int, tyN_str, tyN_tup, tyN_lst, tyN_tl, gSl, oNone, oSome, intv, aNil, aCons, iRange1, iRange2, rng1, rng2, iOf, itv, bLen, bAbs, bInt, bTuple, bList, lenT, pI, pAdd, pIx4, pIx, pDGet, dctAt, dat, look, tgName, forgets, retv, gCall, T.able, T.view, List.getElem?_cons_zero, List.getElem?_cons_succ, List.set_cons_zero, List.set_cons_succ, R.bind_ok, R.bindO_ok, List.length_cons, List.length_nil, dats, trees, lsd, fin, ables_map, views_map', ables_nil, views_nil, ables_cons, views_cons, filter_true', atI_c0, atI_c1, atI_c2, atI_nil, sz_0, sz_1, sz_2, sz_3, sz_4, sz_5, sz_6, sz_7, sz_8, sz_9, sz_10, sz_11, sz_12, sz_13, sz_14, sz_15, kit_NoneType_tuple, kit_NoneType_bool, kit_NoneType_int, kit_NoneType_str, kit_NoneType_list, kit_NoneType_dict, kit_bool_tuple, kit_bool_bool, kit_bool_int, kit_bool_str, kit_bool_list, kit_bool_dict, kit_int_tuple, kit_int_bool, kit_int_int, kit_int_str, kit_int_list, kit_int_dict, kit_str_tuple, kit_str_bool, kit_str_int, kit_str_str, kit_str_list, kit_str_dict, kit_tuple_tuple, kit_tuple_bool, kit_tuple_int, kit_tuple_str, kit_tuple_list, kit_tuple_dict, kit_list_tuple, kit_list_bool, kit_list_int, kit_list_str, kit_list_list, kit_list_dict, Option.bind_some, pEq_lit, pNe_lit, pIn_2, pIn_3, pIn_4, pNotIn_3, pNotIn_4, pEq_int, pNe_int, okD_lit, okD_int, okD_non, okD_bl, en, gDictOb, gaOf, dictv, gDGet2, dget, keyD, kw, pSl, drop1, gComp, ho, e, pe0]
  | .thn _ _, 0, _, hk, _ => by omega
  | .eth p q, k + 1, ob, hk, hd => by
    have en := fun s => pEq_fz (s := s) (pok (.eth p q) 64 (by omega)) (okD_nil 63)
    rw [p_nil] at en
    simp only [ph, pd] at hk hd
    have C := compGo_gen (own := [2]) (tg := tgName 2) (gt := gNotT (gTru (gCall (Fk k 19) (aCons (gFz (gVar 2)) aNil)))) (ge := gVar 2) (fun _ => false) T.fz (fun s => ∃ ext, s = ⟨[.fz (.tup [.str "either", p.d, q.d]), .fz (.int 3), .hole], ob ++ ext⟩) [p.d, q.d] [] ⟨[.fz (.tup [.str "either", p.d, q.d]), .fz (.int 3), .hole], ob ++ [WD]⟩ (fun x hx s hs => by
      obtain ⟨ext, rfl⟩ := hs
      have hx : x = p.d ∨ x = q.d := by simpa using hx
      have he : ∃ x1, Fk k 19 [x] (ob ++ ext) = .ok (.fz (.bl true)) (ob ++ ext ++ x1) := by
        rcases hx with rfl | rfl
        · exact is_program_ok p k (ob ++ ext) (by omega) (by omega)
        · exact is_program_ok q k (ob ++ ext) (by omega) (by omega)
      obtain ⟨x1, e1⟩ := he
      refine ⟨⟨[.fz (.tup [.str "either", p.d, q.d]), .fz (.int 3), .fz x], ob ++ ext⟩, ⟨[.fz (.tup [.str "either", p.d, q.d]), .fz (.int 3), .fz x], ob ++ ext ++ x1⟩, rfl, ?_, (fun h => nomatch h), ext ++ x1, by simp [forgets]⟩
      simp only [List.append_assoc] at e1 ⊢
      simp [sSeq, sIf, sAsg, sAsgT, sAug, sPar, sFor, sForget, sRet, sRetN, sAppend, sExtend, sNext, sBrk, sCont, sDrop, appv, isLst, gB, bv, gNp, npv, gOp, gUn, gVar, gC, gCB, gFz, fzv, gTru, tru, gAndT, gOrT, gNotT, gAnd, gOr, gNot, gIf, PL.gTup, gLst, gIsi, gIsi2, tyN_non, tyN_bl, tyN_int, tyN_str, tyN_tup, tyN_lst, tyN_tl, gSl, oNone, oSome, intv, aNil, aCons, iRange1, iRange2, rng1, rng2, iOf, itv, bLen, bAbs, bInt, bTuple, bList, lenT, pI, pAdd, pIx4, pIx, pDGet, dctAt, dat, look, tgName, forgets, retv, gCall, T.able, T.view, List.getElem?_cons_zero, List.getElem?_cons_succ, List.set_cons_zero, List.set_cons_succ, R.bind_ok, R.bindO_ok, List.length_cons, List.length_nil, dats, trees, lsd, fin, ables_map, views_map', ables_nil, views_nil, ables_cons, views_cons, filter_true', atI_c0, atI_c1, atI_c2, atI_nil, sz_0, sz_1, sz_2, sz_3, sz_4, sz_5, sz_6, sz_7, sz_8, sz_9, sz_10, sz_11, sz_12, sz_13, sz_14, sz_15, e1]) ⟨[WD], rfl⟩ (by simp only [List.length_nil]; exact sz_le (by simp))
    obtain ⟨s', e, ext, rfl⟩ := C
    refine ⟨ext, ?_⟩
    have ho : holes [2] ⟨[.fz (.tup [.str "either", p.d, q.d]), .fz (.int 3), .hole], ob ++ [WD]⟩ = true := rfl
    have ff : ([p.d, q.d].filter fun _ => false) = [] := rfl
    rw [ff] at e
    simp only [List.map_nil, List.append_nil] at e
    rw [Fk_law_is_program, fnD_fin]
    simp only [List.map_cons, List.map_nil, List.replicate, List.cons_append, List.nil_append]
    simp only [P.d] at en ⊢
    unfold WD KS at e ho
    have kw := kw_8
    unfold KS at kw
    simp [m_law_is_program, sSeq, sIf, sAsg, sAsgT, sAug, sPar, sFor, sForget, sRet, sRetN, sAppend, sExtend, sNext, sBrk, sCont, sDrop, appv, isLst, gB, bv, gNp, npv, gOp, gUn, gVar, gC, gCB, gFz, fzv, gTru, tru, gAndT, gOrT, gNotT, gAnd, gOr, gNot, gIf, PL.gTup, gLst, gIsi, gIsi2, tyN_non, tyN_bl, tyN_int, tyN_str, tyN_tup, tyN_lst, tyN_tl, gSl, oNone, oSome, intv, aNil, aCons, iRange1, iRange2, rng1, rng2, iOf, itv, bLen, bAbs, bInt, bTuple, bList, lenT, pI, pAdd, pIx4, pIx, pDGet, dctAt, dat, look, tgName, forgets, retv, gCall, T.able, T.view, List.getElem?_cons_zero, List.getElem?_cons_succ, List.set_cons_zero, List.set_cons_succ, R.bind_ok, R.bindO_ok, List.length_cons, List.length_nil, dats, trees, lsd, fin, ables_map, views_map', ables_nil, views_nil, ables_cons, views_cons, filter_true', atI_c0, atI_c1, atI_c2, atI_nil, sz_0, sz_1, sz_2, sz_3, sz_4, sz_5, sz_6, sz_7, sz_8, sz_9, sz_10, sz_11, sz_12, sz_13, sz_14, sz_15, kit_NoneType_tuple, kit_NoneType_bool, kit_NoneType_int, kit_NoneType_str, kit_NoneType_list, kit_NoneType_dict, kit_bool_tuple, kit_bool_bool, kit_bool_int, kit_bool_str, kit_bool_list, kit_bool_dict, kit_int_tuple, kit_int_bool, kit_int_int, kit_int_str, kit_int_list, kit_int_dict, kit_str_tuple, kit_str_bool, kit_str_int, kit_str_str, kit_str_list, kit_str_dict, kit_tuple_tuple, kit_tuple_bool, kit_tuple_int, kit_tuple_str, kit_tuple_list, kit_tuple_dict, kit_list_tuple, kit_list_bool, kit_list_int, kit_list_str, kit_list_list, kit_list_dict, Option.bind_some, pEq_lit, pNe_lit, pIn_2, pIn_3, pIn_4, pNotIn_3, pNotIn_4, pEq_int, pNe_int, okD_lit, okD_int, okD_non, okD_bl, en, gDictOb, gaOf, dictv, gDGet2, dget, keyD, kw, pSl, drop1, gComp, ho, e, pe0]
  | .eth _ _, 0, _, hk, _ => by omega
  | .bth p q, k + 1, ob, hk, hd => by
    have en := fun s => pEq_fz (s := s) (pok (.bth p q) 64 (by omega)) (okD_nil 63)
    rw [p_nil] at en
    simp only [ph, pd] at hk hd
    have C := compGo_gen (own := [2]) (tg := tgName 2) (gt := gNotT (gTru (gCall (Fk k 19) (aCons (gFz (gVar 2)) aNil)))) (ge := gVar 2) (fun _ => false) T.fz (fun s => ∃ ext, s = ⟨[.fz (.tup [.str "both", p.d, q.d]), .fz (.int 3), .hole], ob ++ ext⟩) [p.d, q.d] [] ⟨[.fz (.tup [.str "both", p.d, q.d]), .fz (.int 3), .hole], ob ++ [WD]⟩ (fun x hx s hs => by
      obtain ⟨ext, rfl⟩ := hs
      have hx : x = p.d ∨ x = q.d := by simpa using hx
      have he : ∃ x1, Fk k 19 [x] (ob ++ ext) = .ok (.fz (.bl true)) (ob ++ ext ++ x1) := by
        rcases hx with rfl | rfl
        · exact is_program_ok p k (ob ++ ext) (by omega) (by omega)
        · exact is_program_ok q k (ob ++ ext) (by omega) (by omega)
      obtain ⟨x1, e1⟩ := he
      refine ⟨⟨[.fz (.tup [.str "both", p.d, q.d]), .fz (.int 3), .fz x], ob ++ ext⟩, ⟨[.fz (.tup [.str "both", p.d, q.d]), .fz (.int 3), .fz x], ob ++ ext ++ x1⟩, rfl, ?_, (fun h => nomatch h), ext ++ x1, by simp [forgets]⟩
      simp only [List.append_assoc] at e1 ⊢
      simp [sSeq, sIf, sAsg, sAsgT, sAug, sPar, sFor, sForget, sRet, sRetN, sAppend, sExtend, sNext, sBrk, sCont, sDrop, appv, isLst, gB, bv, gNp, npv, gOp, gUn, gVar, gC, gCB, gFz, fzv, gTru, tru, gAndT, gOrT, gNotT, gAnd, gOr, gNot, gIf, PL.gTup, gLst, gIsi, gIsi2, tyN_non, tyN_bl, tyN_int, tyN_str, tyN_tup, tyN_lst, tyN_tl, gSl, oNone, oSome, intv, aNil, aCons, iRange1, iRange2, rng1, rng2, iOf, itv, bLen, bAbs, bInt, bTuple, bList, lenT, pI, pAdd, pIx4, pIx, pDGet, dctAt, dat, look, tgName, forgets, retv, gCall, T.able, T.view, List.getElem?_cons_zero, List.getElem?_cons_succ, List.set_cons_zero, List.set_cons_succ, R.bind_ok, R.bindO_ok, List.length_cons, List.length_nil, dats, trees, lsd, fin, ables_map, views_map', ables_nil, views_nil, ables_cons, views_cons, filter_true', atI_c0, atI_c1, atI_c2, atI_nil, sz_0, sz_1, sz_2, sz_3, sz_4, sz_5, sz_6, sz_7, sz_8, sz_9, sz_10, sz_11, sz_12, sz_13, sz_14, sz_15, e1]) ⟨[WD], rfl⟩ (by simp only [List.length_nil]; exact sz_le (by simp))
    obtain ⟨s', e, ext, rfl⟩ := C
    refine ⟨ext, ?_⟩
    have ho : holes [2] ⟨[.fz (.tup [.str "both", p.d, q.d]), .fz (.int 3), .hole], ob ++ [WD]⟩ = true := rfl
    have ff : ([p.d, q.d].filter fun _ => false) = [] := rfl
    rw [ff] at e
    simp only [List.map_nil, List.append_nil] at e
    rw [Fk_law_is_program, fnD_fin]
    simp only [List.map_cons, List.map_nil, List.replicate, List.cons_append, List.nil_append]
    simp only [P.d] at en ⊢
    unfold WD KS at e ho
    have kw := kw_9
    unfold KS at kw
    simp [m_law_is_program, sSeq, sIf, sAsg, sAsgT, sAug, sPar, sFor, sForget, sRet, sRetN, sAppend, sExtend, sNext, sBrk, sCont, sDrop, appv, isLst, gB, bv, gNp, npv, gOp, gUn, gVar, gC, gCB, gFz, fzv, gTru, tru, gAndT, gOrT, gNotT, gAnd, gOr, gNot, gIf, PL.gTup, gLst, gIsi, gIsi2, tyN_non, tyN_bl, tyN_int, tyN_str, tyN_tup, tyN_lst, tyN_tl, gSl, oNone, oSome, intv, aNil, aCons, iRange1, iRange2, rng1, rng2, iOf, itv, bLen, bAbs, bInt, bTuple, bList, lenT, pI, pAdd, pIx4, pIx, pDGet, dctAt, dat, look, tgName, forgets, retv, gCall, T.able, T.view, List.getElem?_cons_zero, List.getElem?_cons_succ, List.set_cons_zero, List.set_cons_succ, R.bind_ok, R.bindO_ok, List.length_cons, List.length_nil, dats, trees, lsd, fin, ables_map, views_map', ables_nil, views_nil, ables_cons, views_cons, filter_true', atI_c0, atI_c1, atI_c2, atI_nil, sz_0, sz_1, sz_2, sz_3, sz_4, sz_5, sz_6, sz_7, sz_8, sz_9, sz_10, sz_11, sz_12, sz_13, sz_14, sz_15, kit_NoneType_tuple, kit_NoneType_bool, kit_NoneType_int, kit_NoneType_str, kit_NoneType_list, kit_NoneType_dict, kit_bool_tuple, kit_bool_bool, kit_bool_int, kit_bool_str, kit_bool_list, kit_bool_dict, kit_int_tuple, kit_int_bool, kit_int_int, kit_int_str, kit_int_list, kit_int_dict, kit_str_tuple, kit_str_bool, kit_str_int, kit_str_str, kit_str_list, kit_str_dict, kit_tuple_tuple, kit_tuple_bool, kit_tuple_int, kit_tuple_str, kit_tuple_list, kit_tuple_dict, kit_list_tuple, kit_list_bool, kit_list_int, kit_list_str, kit_list_list, kit_list_dict, Option.bind_some, pEq_lit, pNe_lit, pIn_2, pIn_3, pIn_4, pNotIn_3, pNotIn_4, pEq_int, pNe_int, okD_lit, okD_int, okD_non, okD_bl, en, gDictOb, gaOf, dictv, gDGet2, dget, keyD, kw, pSl, drop1, gComp, ho, e, pe0]
  | .bth _ _, 0, _, hk, _ => by omega
  | .und p, k + 1, ob, hk, hd => by
    have en := fun s => pEq_fz (s := s) (pok (.und p) 64 (by omega)) (okD_nil 63)
    rw [p_nil] at en
    simp only [ph, pd] at hk hd
    have C := compGo_gen (own := [2]) (tg := tgName 2) (gt := gNotT (gTru (gCall (Fk k 19) (aCons (gFz (gVar 2)) aNil)))) (ge := gVar 2) (fun _ => false) T.fz (fun s => ∃ ext, s = ⟨[.fz (.tup [.str "undo", p.d]), .fz (.int 2), .hole], ob ++ ext⟩) [p.d] [] ⟨[.fz (.tup [.str "undo", p.d]), .fz (.int 2), .hole], ob ++ [WD]⟩ (fun x hx s hs => by
      obtain ⟨ext, rfl⟩ := hs
      have hx : x = p.d := by simpa using hx
      subst hx
      obtain ⟨x1, e1⟩ := is_program_ok p k (ob ++ ext) (by omega) (by omega)
      refine ⟨⟨[.fz (.tup [.str "undo", p.d]), .fz (.int 2), .fz p.d], ob ++ ext⟩, ⟨[.fz (.tup [.str "undo", p.d]), .fz (.int 2), .fz p.d], ob ++ ext ++ x1⟩, rfl, ?_, (fun h => nomatch h), ext ++ x1, by simp [forgets]⟩
      simp only [List.append_assoc] at e1 ⊢
      simp [sSeq, sIf, sAsg, sAsgT, sAug, sPar, sFor, sForget, sRet, sRetN, sAppend, sExtend, sNext, sBrk, sCont, sDrop, appv, isLst, gB, bv, gNp, npv, gOp, gUn, gVar, gC, gCB, gFz, fzv, gTru, tru, gAndT, gOrT, gNotT, gAnd, gOr, gNot, gIf, PL.gTup, gLst, gIsi, gIsi2, tyN_non, tyN_bl, tyN_int, tyN_str, tyN_tup, tyN_lst, tyN_tl, gSl, oNone, oSome, intv, aNil, aCons, iRange1, iRange2, rng1, rng2, iOf, itv, bLen, bAbs, bInt, bTuple, bList, lenT, pI, pAdd, pIx4, pIx, pDGet, dctAt, dat, look, tgName, forgets, retv, gCall, T.able, T.view, List.getElem?_cons_zero, List.getElem?_cons_succ, List.set_cons_zero, List.set_cons_succ, R.bind_ok, R.bindO_ok, List.length_cons, List.length_nil, dats, trees, lsd, fin, ables_map, views_map', ables_nil, views_nil, ables_cons, views_cons, filter_true', atI_c0, atI_c1, atI_c2, atI_nil, sz_0, sz_1, sz_2, sz_3, sz_4, sz_5, sz_6, sz_7, sz_8, sz_9, sz_10, sz_11, sz_12, sz_13, sz_14, sz_15, e1]) ⟨[WD], rfl⟩ (by simp only [List.length_nil]; exact sz_le (by simp))
    obtain ⟨s', e, ext, rfl⟩ := C
    refine ⟨ext, ?_⟩
    have ho : holes [2] ⟨[.fz (.tup [.str "undo", p.d]), .fz (.int 2), .hole], ob ++ [WD]⟩ = true := rfl
    have ff : ([p.d].filter fun _ => false) = [] := rfl
    rw [ff] at e
    simp only [List.map_nil, List.append_nil] at e
    rw [Fk_law_is_program, fnD_fin]
    simp only [List.map_cons, List.map_nil, List.replicate, List.cons_append, List.nil_append]
    simp only [P.d] at en ⊢
    unfold WD KS at e ho
    have kw := kw_10
    unfold KS at kw
    simp [m_law_is_program, sSeq, sIf, sAsg, sAsgT, sAug, sPar, sFor, sForget, sRet, sRetN, sAppend, sExtend, sNext, sBrk, sCont, sDrop, appv, isLst, gB, bv, gNp, npv, gOp, gUn, gVar, gC, gCB, gFz, fzv, gTru, tru, gAndT, gOrT, gNotT, gAnd, gOr, gNot, gIf, PL.gTup, gLst, gIsi, gIsi2, tyN_non, tyN_bl, tyN_int, tyN_str, tyN_tup, tyN_lst, tyN_tl, gSl, oNone, oSome, intv, aNil, aCons, iRange1, iRange2, rng1, rng2, iOf, itv, bLen, bAbs, bInt, bTuple, bList, lenT, pI, pAdd, pIx4, pIx, pDGet, dctAt, dat, look, tgName, forgets, retv, gCall, T.able, T.view, List.getElem?_cons_zero, List.getElem?_cons_succ, List.set_cons_zero, List.set_cons_succ, R.bind_ok, R.bindO_ok, List.length_cons, List.length_nil, dats, trees, lsd, fin, ables_map, views_map', ables_nil, views_nil, ables_cons, views_cons, filter_true', atI_c0, atI_c1, atI_c2, atI_nil, sz_0, sz_1, sz_2, sz_3, sz_4, sz_5, sz_6, sz_7, sz_8, sz_9, sz_10, sz_11, sz_12, sz_13, sz_14, sz_15, kit_NoneType_tuple, kit_NoneType_bool, kit_NoneType_int, kit_NoneType_str, kit_NoneType_list, kit_NoneType_dict, kit_bool_tuple, kit_bool_bool, kit_bool_int, kit_bool_str, kit_bool_list, kit_bool_dict, kit_int_tuple, kit_int_bool, kit_int_int, kit_int_str, kit_int_list, kit_int_dict, kit_str_tuple, kit_str_bool, kit_str_int, kit_str_str, kit_str_list, kit_str_dict, kit_tuple_tuple, kit_tuple_bool, kit_tuple_int, kit_tuple_str, kit_tuple_list, kit_tuple_dict, kit_list_tuple, kit_list_bool, kit_list_int, kit_list_str, kit_list_list, kit_list_dict, Option.bind_some, pEq_lit, pNe_lit, pIn_2, pIn_3, pIn_4, pNotIn_3, pNotIn_4, pEq_int, pNe_int, okD_lit, okD_int, okD_non, okD_bl, en, gDictOb, gaOf, dictv, gDGet2, dget, keyD, kw, pSl, drop1, gComp, ho, e, pe0]
  | .und _, 0, _, hk, _ => by omega
  | .same a, k + 1, ob, hk, hd => by
    have en := fun s => pEq_fz (s := s) (pok (.same a) 64 (by omega)) (okD_nil 63)
    rw [p_nil] at en
    refine ⟨[WD], ?_⟩
    rw [Fk_law_is_program, fnD_fin]
    simp only [List.map_cons, List.map_nil, List.replicate, List.cons_append, List.nil_append]
    simp only [P.d] at en ⊢
    have kw := kw_0
    unfold KS at kw
    unfold WD KS
    simp [m_law_is_program, sSeq, sIf, sAsg, sAsgT, sAug, sPar, sFor, sForget, sRet, sRetN, sAppend, sExtend, sNext, sBrk, sCont, sDrop, appv, isLst, gB, bv, gNp, npv, gOp, gUn, gVar, gC, gCB, gFz, fzv, gTru, tru, gAndT, gOrT, gNotT, gAnd, gOr, gNot, gIf, PL.gTup, gLst, gIsi, gIsi2, tyN_non, tyN_bl, tyN_int, tyN_str, tyN_tup, tyN_lst, tyN_tl, gSl, oNone, oSome, intv, aNil, aCons, iRange1, iRange2, rng1, rng2, iOf, itv, bLen, bAbs, bInt, bTuple, bList, lenT, pI, pAdd, pIx4, pIx, pDGet, dctAt, dat, look, tgName, forgets, retv, gCall, T.able, T.view, List.getElem?_cons_zero, List.getElem?_cons_succ, List.set_cons_zero, List.set_cons_succ, R.bind_ok, R.bindO_ok, List.length_cons, List.length_nil, dats, trees, lsd, fin, ables_map, views_map', ables_nil, views_nil, ables_cons, views_cons, filter_true', atI_c0, atI_c1, atI_c2, atI_nil, sz_0, sz_1, sz_2, sz_3, sz_4, sz_5, sz_6, sz_7, sz_8, sz_9, sz_10, sz_11, sz_12, sz_13, sz_14, sz_15, kit_NoneType_tuple, kit_NoneType_bool, kit_NoneType_int, kit_NoneType_str, kit_NoneType_list, kit_NoneType_dict, kit_bool_tuple, kit_bool_bool, kit_bool_int, kit_bool_str, kit_bool_list, kit_bool_dict, kit_int_tuple, kit_int_bool, kit_int_int, kit_int_str, kit_int_list, kit_int_dict, kit_str_tuple, kit_str_bool, kit_str_int, kit_str_str, kit_str_list, kit_str_dict, kit_tuple_tuple, kit_tuple_bool, kit_tuple_int, kit_tuple_str, kit_tuple_list, kit_tuple_dict, kit_list_tuple, kit_list_bool, kit_list_int, kit_list_str, kit_list_list, kit_list_dict, Option.bind_some, pEq_lit, pNe_lit, pIn_2, pIn_3, pIn_4, pNotIn_3, pNotIn_4, pEq_int, pNe_int, okD_lit, okD_int, okD_non, okD_bl, en, gDictOb, gaOf, dictv, gDGet2, dget, keyD, kw]
  | .same _, 0, _, hk, _ => by omega
  | .drop a, k + 1, ob, hk, hd => by
    have en := fun s => pEq_fz (s := s) (pok (.drop a) 64 (by omega)) (okD_nil 63)
    rw [p_nil] at en
    refine ⟨[WD], ?_⟩
    rw [Fk_law_is_program, fnD_fin]
    simp only [List.map_cons, List.map_nil, List.replicate, List.cons_append, List.nil_append]
    simp only [P.d] at en ⊢
    have kw := kw_6
    unfold KS at kw
    unfold WD KS
    simp [m_law_is_program, sSeq, sIf, sAsg, sAsgT, sAug, sPar, sFor, sForget, sRet, sRetN, sAppend, sExtend, sNext, sBrk, sCont, sDrop, appv, isLst, gB, bv, gNp, npv, gOp, gUn, gVar, gC, gCB, gFz, fzv, gTru, tru, gAndT, gOrT, gNotT, gAnd, gOr, gNot, gIf, PL.gTup, gLst, gIsi, gIsi2, tyN_non, tyN_bl, tyN_int, tyN_str, tyN_tup, tyN_lst, tyN_tl, gSl, oNone, oSome, intv, aNil, aCons, iRange1, iRange2, rng1, rng2, iOf, itv, bLen, bAbs, bInt, bTuple, bList, lenT, pI, pAdd, pIx4, pIx, pDGet, dctAt, dat, look, tgName, forgets, retv, gCall, T.able, T.view, List.getElem?_cons_zero, List.getElem?_cons_succ, List.set_cons_zero, List.set_cons_succ, R.bind_ok, R.bindO_ok, List.length_cons, List.length_nil, dats, trees, lsd, fin, ables_map, views_map', ables_nil, views_nil, ables_cons, views_cons, filter_true', atI_c0, atI_c1, atI_c2, atI_nil, sz_0, sz_1, sz_2, sz_3, sz_4, sz_5, sz_6, sz_7, sz_8, sz_9, sz_10, sz_11, sz_12, sz_13, sz_14, sz_15, kit_NoneType_tuple, kit_NoneType_bool, kit_NoneType_int, kit_NoneType_str, kit_NoneType_list, kit_NoneType_dict, kit_bool_tuple, kit_bool_bool, kit_bool_int, kit_bool_str, kit_bool_list, kit_bool_dict, kit_int_tuple, kit_int_bool, kit_int_int, kit_int_str, kit_int_list, kit_int_dict, kit_str_tuple, kit_str_bool, kit_str_int, kit_str_str, kit_str_list, kit_str_dict, kit_tuple_tuple, kit_tuple_bool, kit_tuple_int, kit_tuple_str, kit_tuple_list, kit_tuple_dict, kit_list_tuple, kit_list_bool, kit_list_int, kit_list_str, kit_list_list, kit_list_dict, Option.bind_some, pEq_lit, pNe_lit, pIn_2, pIn_3, pIn_4, pNotIn_3, pNotIn_4, pEq_int, pNe_int, okD_lit, okD_int, okD_non, okD_bl, en, gDictOb, gaOf, dictv, gDGet2, dget, keyD, kw]
  | .drop _, 0, _, hk, _ => by omega
  | .turnS a b, k + 1, ob, hk, hd => by
    have en := fun s => pEq_fz (s := s) (pok (.turnS a b) 64 (by omega)) (okD_nil 63)
    rw [p_nil] at en
    refine ⟨[WD], ?_⟩
    rw [Fk_law_is_program, fnD_fin]
    simp only [List.map_cons, List.map_nil, List.replicate, List.cons_append, List.nil_append]
    simp only [P.d] at en ⊢
    have kw := kw_1
    unfold KS at kw
    unfold WD KS
    simp [m_law_is_program, sSeq, sIf, sAsg, sAsgT, sAug, sPar, sFor, sForget, sRet, sRetN, sAppend, sExtend, sNext, sBrk, sCont, sDrop, appv, isLst, gB, bv, gNp, npv, gOp, gUn, gVar, gC, gCB, gFz, fzv, gTru, tru, gAndT, gOrT, gNotT, gAnd, gOr, gNot, gIf, PL.gTup, gLst, gIsi, gIsi2, tyN_non, tyN_bl, tyN_int, tyN_str, tyN_tup, tyN_lst, tyN_tl, gSl, oNone, oSome, intv, aNil, aCons, iRange1, iRange2, rng1, rng2, iOf, itv, bLen, bAbs, bInt, bTuple, bList, lenT, pI, pAdd, pIx4, pIx, pDGet, dctAt, dat, look, tgName, forgets, retv, gCall, T.able, T.view, List.getElem?_cons_zero, List.getElem?_cons_succ, List.set_cons_zero, List.set_cons_succ, R.bind_ok, R.bindO_ok, List.length_cons, List.length_nil, dats, trees, lsd, fin, ables_map, views_map', ables_nil, views_nil, ables_cons, views_cons, filter_true', atI_c0, atI_c1, atI_c2, atI_nil, sz_0, sz_1, sz_2, sz_3, sz_4, sz_5, sz_6, sz_7, sz_8, sz_9, sz_10, sz_11, sz_12, sz_13, sz_14, sz_15, kit_NoneType_tuple, kit_NoneType_bool, kit_NoneType_int, kit_NoneType_str, kit_NoneType_list, kit_NoneType_dict, kit_bool_tuple, kit_bool_bool, kit_bool_int, kit_bool_str, kit_bool_list, kit_bool_dict, kit_int_tuple, kit_int_bool, kit_int_int, kit_int_str, kit_int_list, kit_int_dict, kit_str_tuple, kit_str_bool, kit_str_int, kit_str_str, kit_str_list, kit_str_dict, kit_tuple_tuple, kit_tuple_bool, kit_tuple_int, kit_tuple_str, kit_tuple_list, kit_tuple_dict, kit_list_tuple, kit_list_bool, kit_list_int, kit_list_str, kit_list_list, kit_list_dict, Option.bind_some, pEq_lit, pNe_lit, pIn_2, pIn_3, pIn_4, pNotIn_3, pNotIn_4, pEq_int, pNe_int, okD_lit, okD_int, okD_non, okD_bl, en, gDictOb, gaOf, dictv, gDGet2, dget, keyD, kw]
  | .turnS _ _, 0, _, hk, _ => by omega
  | .turnP a b, k + 1, ob, hk, hd => by
    have en := fun s => pEq_fz (s := s) (pok (.turnP a b) 64 (by omega)) (okD_nil 63)
    rw [p_nil] at en
    refine ⟨[WD], ?_⟩
    rw [Fk_law_is_program, fnD_fin]
    simp only [List.map_cons, List.map_nil, List.replicate, List.cons_append, List.nil_append]
    simp only [P.d] at en ⊢
    have kw := kw_2
    unfold KS at kw
    unfold WD KS
    simp [m_law_is_program, sSeq, sIf, sAsg, sAsgT, sAug, sPar, sFor, sForget, sRet, sRetN, sAppend, sExtend, sNext, sBrk, sCont, sDrop, appv, isLst, gB, bv, gNp, npv, gOp, gUn, gVar, gC, gCB, gFz, fzv, gTru, tru, gAndT, gOrT, gNotT, gAnd, gOr, gNot, gIf, PL.gTup, gLst, gIsi, gIsi2, tyN_non, tyN_bl, tyN_int, tyN_str, tyN_tup, tyN_lst, tyN_tl, gSl, oNone, oSome, intv, aNil, aCons, iRange1, iRange2, rng1, rng2, iOf, itv, bLen, bAbs, bInt, bTuple, bList, lenT, pI, pAdd, pIx4, pIx, pDGet, dctAt, dat, look, tgName, forgets, retv, gCall, T.able, T.view, List.getElem?_cons_zero, List.getElem?_cons_succ, List.set_cons_zero, List.set_cons_succ, R.bind_ok, R.bindO_ok, List.length_cons, List.length_nil, dats, trees, lsd, fin, ables_map, views_map', ables_nil, views_nil, ables_cons, views_cons, filter_true', atI_c0, atI_c1, atI_c2, atI_nil, sz_0, sz_1, sz_2, sz_3, sz_4, sz_5, sz_6, sz_7, sz_8, sz_9, sz_10, sz_11, sz_12, sz_13, sz_14, sz_15, kit_NoneType_tuple, kit_NoneType_bool, kit_NoneType_int, kit_NoneType_str, kit_NoneType_list, kit_NoneType_dict, kit_bool_tuple, kit_bool_bool, kit_bool_int, kit_bool_str, kit_bool_list, kit_bool_dict, kit_int_tuple, kit_int_bool, kit_int_int, kit_int_str, kit_int_list, kit_int_dict, kit_str_tuple, kit_str_bool, kit_str_int, kit_str_str, kit_str_list, kit_str_dict, kit_tuple_tuple, kit_tuple_bool, kit_tuple_int, kit_tuple_str, kit_tuple_list, kit_tuple_dict, kit_list_tuple, kit_list_bool, kit_list_int, kit_list_str, kit_list_list, kit_list_dict, Option.bind_some, pEq_lit, pNe_lit, pIn_2, pIn_3, pIn_4, pNotIn_3, pNotIn_4, pEq_int, pNe_int, okD_lit, okD_int, okD_non, okD_bl, en, gDictOb, gaOf, dictv, gDGet2, dget, keyD, kw]
  | .turnP _ _, 0, _, hk, _ => by omega
  | .spread a b c, k + 1, ob, hk, hd => by
    have en := fun s => pEq_fz (s := s) (pok (.spread a b c) 64 (by omega)) (okD_nil 63)
    rw [p_nil] at en
    refine ⟨[WD], ?_⟩
    rw [Fk_law_is_program, fnD_fin]
    simp only [List.map_cons, List.map_nil, List.replicate, List.cons_append, List.nil_append]
    simp only [P.d] at en ⊢
    have kw := kw_5
    unfold KS at kw
    unfold WD KS
    simp [m_law_is_program, sSeq, sIf, sAsg, sAsgT, sAug, sPar, sFor, sForget, sRet, sRetN, sAppend, sExtend, sNext, sBrk, sCont, sDrop, appv, isLst, gB, bv, gNp, npv, gOp, gUn, gVar, gC, gCB, gFz, fzv, gTru, tru, gAndT, gOrT, gNotT, gAnd, gOr, gNot, gIf, PL.gTup, gLst, gIsi, gIsi2, tyN_non, tyN_bl, tyN_int, tyN_str, tyN_tup, tyN_lst, tyN_tl, gSl, oNone, oSome, intv, aNil, aCons, iRange1, iRange2, rng1, rng2, iOf, itv, bLen, bAbs, bInt, bTuple, bList, lenT, pI, pAdd, pIx4, pIx, pDGet, dctAt, dat, look, tgName, forgets, retv, gCall, T.able, T.view, List.getElem?_cons_zero, List.getElem?_cons_succ, List.set_cons_zero, List.set_cons_succ, R.bind_ok, R.bindO_ok, List.length_cons, List.length_nil, dats, trees, lsd, fin, ables_map, views_map', ables_nil, views_nil, ables_cons, views_cons, filter_true', atI_c0, atI_c1, atI_c2, atI_nil, sz_0, sz_1, sz_2, sz_3, sz_4, sz_5, sz_6, sz_7, sz_8, sz_9, sz_10, sz_11, sz_12, sz_13, sz_14, sz_15, kit_NoneType_tuple, kit_NoneType_bool, kit_NoneType_int, kit_NoneType_str, kit_NoneType_list, kit_NoneType_dict, kit_bool_tuple, kit_bool_bool, kit_bool_int, kit_bool_str, kit_bool_list, kit_bool_dict, kit_int_tuple, kit_int_bool, kit_int_int, kit_int_str, kit_int_list, kit_int_dict, kit_str_tuple, kit_str_bool, kit_str_int, kit_str_str, kit_str_list, kit_str_dict, kit_tuple_tuple, kit_tuple_bool, kit_tuple_int, kit_tuple_str, kit_tuple_list, kit_tuple_dict, kit_list_tuple, kit_list_bool, kit_list_int, kit_list_str, kit_list_list, kit_list_dict, Option.bind_some, pEq_lit, pNe_lit, pIn_2, pIn_3, pIn_4, pNotIn_3, pNotIn_4, pEq_int, pNe_int, okD_lit, okD_int, okD_non, okD_bl, en, gDictOb, gaOf, dictv, gDGet2, dget, keyD, kw]
  | .spread _ _ _, 0, _, hk, _ => by omega
  | .shiftS a b c, k + 1, ob, hk, hd => by
    have en := fun s => pEq_fz (s := s) (pok (.shiftS a b c) 64 (by omega)) (okD_nil 63)
    rw [p_nil] at en
    refine ⟨[WD], ?_⟩
    rw [Fk_law_is_program, fnD_fin]
    simp only [List.map_cons, List.map_nil, List.replicate, List.cons_append, List.nil_append]
    simp only [P.d] at en ⊢
    have kw := kw_3
    unfold KS at kw
    unfold WD KS
    simp [m_law_is_program, sSeq, sIf, sAsg, sAsgT, sAug, sPar, sFor, sForget, sRet, sRetN, sAppend, sExtend, sNext, sBrk, sCont, sDrop, appv, isLst, gB, bv, gNp, npv, gOp, gUn, gVar, gC, gCB, gFz, fzv, gTru, tru, gAndT, gOrT, gNotT, gAnd, gOr, gNot, gIf, PL.gTup, gLst, gIsi, gIsi2, tyN_non, tyN_bl, tyN_int, tyN_str, tyN_tup, tyN_lst, tyN_tl, gSl, oNone, oSome, intv, aNil, aCons, iRange1, iRange2, rng1, rng2, iOf, itv, bLen, bAbs, bInt, bTuple, bList, lenT, pI, pAdd, pIx4, pIx, pDGet, dctAt, dat, look, tgName, forgets, retv, gCall, T.able, T.view, List.getElem?_cons_zero, List.getElem?_cons_succ, List.set_cons_zero, List.set_cons_succ, R.bind_ok, R.bindO_ok, List.length_cons, List.length_nil, dats, trees, lsd, fin, ables_map, views_map', ables_nil, views_nil, ables_cons, views_cons, filter_true', atI_c0, atI_c1, atI_c2, atI_nil, sz_0, sz_1, sz_2, sz_3, sz_4, sz_5, sz_6, sz_7, sz_8, sz_9, sz_10, sz_11, sz_12, sz_13, sz_14, sz_15, kit_NoneType_tuple, kit_NoneType_bool, kit_NoneType_int, kit_NoneType_str, kit_NoneType_list, kit_NoneType_dict, kit_bool_tuple, kit_bool_bool, kit_bool_int, kit_bool_str, kit_bool_list, kit_bool_dict, kit_int_tuple, kit_int_bool, kit_int_int, kit_int_str, kit_int_list, kit_int_dict, kit_str_tuple, kit_str_bool, kit_str_int, kit_str_str, kit_str_list, kit_str_dict, kit_tuple_tuple, kit_tuple_bool, kit_tuple_int, kit_tuple_str, kit_tuple_list, kit_tuple_dict, kit_list_tuple, kit_list_bool, kit_list_int, kit_list_str, kit_list_list, kit_list_dict, Option.bind_some, pEq_lit, pNe_lit, pIn_2, pIn_3, pIn_4, pNotIn_3, pNotIn_4, pEq_int, pNe_int, okD_lit, okD_int, okD_non, okD_bl, en, gDictOb, gaOf, dictv, gDGet2, dget, keyD, kw]
  | .shiftS _ _ _, 0, _, hk, _ => by omega
  | .shiftP a b c, k + 1, ob, hk, hd => by
    have en := fun s => pEq_fz (s := s) (pok (.shiftP a b c) 64 (by omega)) (okD_nil 63)
    rw [p_nil] at en
    refine ⟨[WD], ?_⟩
    rw [Fk_law_is_program, fnD_fin]
    simp only [List.map_cons, List.map_nil, List.replicate, List.cons_append, List.nil_append]
    simp only [P.d] at en ⊢
    have kw := kw_4
    unfold KS at kw
    unfold WD KS
    simp [m_law_is_program, sSeq, sIf, sAsg, sAsgT, sAug, sPar, sFor, sForget, sRet, sRetN, sAppend, sExtend, sNext, sBrk, sCont, sDrop, appv, isLst, gB, bv, gNp, npv, gOp, gUn, gVar, gC, gCB, gFz, fzv, gTru, tru, gAndT, gOrT, gNotT, gAnd, gOr, gNot, gIf, PL.gTup, gLst, gIsi, gIsi2, tyN_non, tyN_bl, tyN_int, tyN_str, tyN_tup, tyN_lst, tyN_tl, gSl, oNone, oSome, intv, aNil, aCons, iRange1, iRange2, rng1, rng2, iOf, itv, bLen, bAbs, bInt, bTuple, bList, lenT, pI, pAdd, pIx4, pIx, pDGet, dctAt, dat, look, tgName, forgets, retv, gCall, T.able, T.view, List.getElem?_cons_zero, List.getElem?_cons_succ, List.set_cons_zero, List.set_cons_succ, R.bind_ok, R.bindO_ok, List.length_cons, List.length_nil, dats, trees, lsd, fin, ables_map, views_map', ables_nil, views_nil, ables_cons, views_cons, filter_true', atI_c0, atI_c1, atI_c2, atI_nil, sz_0, sz_1, sz_2, sz_3, sz_4, sz_5, sz_6, sz_7, sz_8, sz_9, sz_10, sz_11, sz_12, sz_13, sz_14, sz_15, kit_NoneType_tuple, kit_NoneType_bool, kit_NoneType_int, kit_NoneType_str, kit_NoneType_list, kit_NoneType_dict, kit_bool_tuple, kit_bool_bool, kit_bool_int, kit_bool_str, kit_bool_list, kit_bool_dict, kit_int_tuple, kit_int_bool, kit_int_int, kit_int_str, kit_int_list, kit_int_dict, kit_str_tuple, kit_str_bool, kit_str_int, kit_str_str, kit_str_list, kit_str_dict, kit_tuple_tuple, kit_tuple_bool, kit_tuple_int, kit_tuple_str, kit_tuple_list, kit_tuple_dict, kit_list_tuple, kit_list_bool, kit_list_int, kit_list_str, kit_list_list, kit_list_dict, Option.bind_some, pEq_lit, pNe_lit, pIn_2, pIn_3, pIn_4, pNotIn_3, pNotIn_4, pEq_int, pNe_int, okD_lit, okD_int, okD_non, okD_bl, en, gDictOb, gaOf, dictv, gDGet2, dget, keyD, kw]
  | .shiftP _ _ _, 0, _, hk, _ => by omega
end L_k62
set_option Elab.async false
set_option linter.all false
set_option maxRecDepth 100000
set_option autoImplicit false
set_option maxHeartbeats 0
namespace L_k62
open PySem PySem.Spec PyProof.Rows L2 PL
theorem pk (k : Nat) : Fk (k + 1) 11 = fnD 0 (m_pick 10 (Fk k)) := rfl
theorem nx (k : Nat) : Fk (k + 1) 10 = fnD 0 m_next := rfl
theorem al (k : Nat) : Fk (k + 1) 12 = fnD 1 (m_alike 12 (Fk k)) := rfl
theorem lawtype_ok : ∀ (n k : Nat) (l : List Int) (at_ : Nat) (rest : List T), n + 3 ≤ k → ∃ (t : Ty) (at' : Nat), t.dep ≤ n ∧ Fk k 13 [.obj 0, .int n] (wT l at_ :: rest) = .ok (.fz t.d) (wT l at' :: rest) := by
  intro n
  induction n with
  | zero =>
    intro k l at_ rest hk
    obtain ⟨k, rfl⟩ : ∃ k', k = k' + 1 := ⟨k - 1, by omega⟩
    refine ⟨.one, at_, Nat.le_refl _, ?_⟩
    rw [Fk_law_type, fnD_fin]
    simp only [List.map_cons, List.map_nil, List.replicate, List.cons_append, List.nil_append]
    simp [m_law_type, Ty.d, sSeq, sIf, sAsg, sAsgT, sAug, sPar, sFor, sForget, sRet, sRetN, sAppend, sExtend, sNext, sBrk, sCont, sDrop, appv, isLst, gB, bv, gNp, npv, gOp, gUn, gVar, gC, gCB, gFz, fzv, gTru, tru, gAndT, gOrT, gNotT, gAnd, gOr, gNot, gIf, PL.gTup, gLst, gIsi, gIsi2, tyN_non, tyN_bl, tyN_int, tyN_str, tyN_tup, tyN_lst, tyN_tl, gSl, oNone, oSome, intv, aNil, aCons, iRange1, iRange2, rng1, rng2, iOf, itv, bLen, bAbs, bInt, bTuple, bList, lenT, pI, pAdd, pIx4, pIx, pDGet, dctAt, dat, look, tgName, forgets, retv, gCall, T.able, T.view, List.getElem?_cons_zero, List.getElem?_cons_succ, List.set_cons_zero, List.set_cons_succ, R.bind_ok, R.bindO_ok, List.length_cons, List.length_nil, dats, trees, lsd, fin, ables_map, views_map', ables_nil, views_nil, ables_cons, views_cons, filter_true', atI_c0, atI_c1, atI_c2, atI_nil, sz_0, sz_1, sz_2, sz_3, sz_4, sz_5, sz_6, sz_7, sz_8, sz_9, sz_10, sz_11, sz_12, sz_13, sz_14, sz_15, pEq_int]
  | succ n ih =>
    intro k l at_ rest hk
    obtain ⟨k, rfl⟩ : ∃ k', k = k' + 2 := ⟨k - 2, by omega⟩
    have en := next_ok l at_ 3 rest (by decide)
    rw [← nx k] at en
    have hne : ¬ ((n : Int) + 1 = 0) := by omega
    have hneb : (((n : Int) + 1) == 0) = false := beq_eq_false_iff_ne.mpr hne
    have hsub : ((n : Int) + 1 - 1) = n := by omega
    by_cases h0 : nxt l at_ 3 = 0
    · refine ⟨.one, at_ + 1, Nat.zero_le _, ?_⟩
      rw [h0] at en
      rw [Fk_law_type, fnD_fin]
      simp only [List.map_cons, List.map_nil, List.replicate, List.cons_append, List.nil_append]
      simp [m_law_type, Ty.d, sSeq, sIf, sAsg, sAsgT, sAug, sPar, sFor, sForget, sRet, sRetN, sAppend, sExtend, sNext, sBrk, sCont, sDrop, appv, isLst, gB, bv, gNp, npv, gOp, gUn, gVar, gC, gCB, gFz, fzv, gTru, tru, gAndT, gOrT, gNotT, gAnd, gOr, gNot, gIf, PL.gTup, gLst, gIsi, gIsi2, tyN_non, tyN_bl, tyN_int, tyN_str, tyN_tup, tyN_lst, tyN_tl, gSl, oNone, oSome, intv, aNil, aCons, iRange1, iRange2, rng1, rng2, iOf, itv, bLen, bAbs, bInt, bTuple, bList, lenT, pI, pAdd, pIx4, pIx, pDGet, dctAt, dat, look, tgName, forgets, retv, gCall, T.able, T.view, List.getElem?_cons_zero, List.getElem?_cons_succ, List.set_cons_zero, List.set_cons_succ, R.bind_ok, R.bindO_ok, List.length_cons, List.length_nil, dats, trees, lsd, fin, ables_map, views_map', ables_nil, views_nil, ables_cons, views_cons, filter_true', atI_c0, atI_c1, atI_c2, atI_nil, sz_0, sz_1, sz_2, sz_3, sz_4, sz_5, sz_6, sz_7, sz_8, sz_9, sz_10, sz_11, sz_12, sz_13, sz_14, sz_15, pEq_int, hne, hneb, en]
    · obtain ⟨t1, a1, hd1, e1⟩ := ih (k + 1) l (at_ + 1) rest (by omega)
      obtain ⟨d, hd, ed⟩ := pick_lst (nx (k - 1)) l a1 rest [.str "sum", .str "pair", .str "sum"] (by simp)
      obtain ⟨t2, a2, hd2, e2⟩ := ih (k + 1) l (a1 + 1) rest (by omega)
      have h0b : (nxt l at_ 3 == 0) = false := beq_eq_false_iff_ne.mpr h0
      rw [show k - 1 + 1 = k by omega, ← pk k] at ed
      have key : Fk (k + 2) 13 [.obj 0, .int ((n : Int) + 1)] (wT l at_ :: rest) = .ok (.fz (.tup [d, t1.d, t2.d])) (wT l a2 :: rest) := by
        rw [Fk_law_type, fnD_fin]
        simp only [List.map_cons, List.map_nil, List.replicate, List.cons_append, List.nil_append]
        simp [m_law_type, sSeq, sIf, sAsg, sAsgT, sAug, sPar, sFor, sForget, sRet, sRetN, sAppend, sExtend, sNext, sBrk, sCont, sDrop, appv, isLst, gB, bv, gNp, npv, gOp, gUn, gVar, gC, gCB, gFz, fzv, gTru, tru, gAndT, gOrT, gNotT, gAnd, gOr, gNot, gIf, PL.gTup, gLst, gIsi, gIsi2, tyN_non, tyN_bl, tyN_int, tyN_str, tyN_tup, tyN_lst, tyN_tl, gSl, oNone, oSome, intv, aNil, aCons, iRange1, iRange2, rng1, rng2, iOf, itv, bLen, bAbs, bInt, bTuple, bList, lenT, pI, pAdd, pIx4, pIx, pDGet, dctAt, dat, look, tgName, forgets, retv, gCall, T.able, T.view, List.getElem?_cons_zero, List.getElem?_cons_succ, List.set_cons_zero, List.set_cons_succ, R.bind_ok, R.bindO_ok, List.length_cons, List.length_nil, dats, trees, lsd, fin, ables_map, views_map', ables_nil, views_nil, ables_cons, views_cons, filter_true', atI_c0, atI_c1, atI_c2, atI_nil, sz_0, sz_1, sz_2, sz_3, sz_4, sz_5, sz_6, sz_7, sz_8, sz_9, sz_10, sz_11, sz_12, sz_13, sz_14, sz_15, pEq_int, hne, hneb, en, h0, h0b, hsub, e1, ed, e2]
      have : d = .str "sum" ∨ d = .str "pair" := by
        simp at hd
        rcases hd with h | h | h
        · exact .inl h
        · exact .inr h
        · exact .inl h
      rcases this with rfl | rfl
      · exact ⟨.sum t1 t2, a2, by rw [Ty.dep]; omega, key⟩
      · exact ⟨.pair t1 t2, a2, by rw [Ty.dep]; omega, key⟩
end L_k62
set_option Elab.async false
set_option linter.all false
set_option maxRecDepth 100000
set_option autoImplicit false
set_option maxHeartbeats 0
namespace L_k62
open PySem PySem.Spec PyProof.Rows L2 PL
def ables : Ty → List P
  | .one => [.same .one, .und (.drop .one)]
  | .sum x y => [.same (.sum x y), .turnS x y] ++ (match x with
      | .sum a b => [.shiftS a b y]
      | _ => []) ++ (match y with
      | .sum b c => [.und (.shiftS x b c)]
      | _ => []) ++ (match x, y with
      | .pair p c, .pair q c' => if c = c' then [.und (.spread p q c)] else []
      | _, _ => []) ++ [.und (.drop (.sum x y))]
  | .pair x y => [.same (.pair x y), .turnP x y] ++ (match x with
      | .pair a b => [.shiftP a b y]
      | _ => []) ++ (match y with
      | .pair b c => [.und (.shiftP x b c)]
      | _ => []) ++ (match x with
      | .sum a b => [.spread a b y]
      | _ => []) ++ (match x with
      | .one => [.drop y]
      | _ => []) ++ [.und (.drop (.pair x y))]
structure OKP (a : Ty) (p : P) : Prop where
  ty : ∃ t, typ p = some (a, t)
  d : pd p ≤ a.dep + 1
  h : ph p ≤ 1
theorem ables_ok : ∀ (a : Ty), ∀ p ∈ ables a, OKP a p
  | .one => by
    simp only [ables, List.forall_mem_cons, List.not_mem_nil, false_implies, implies_true, and_true]
    repeat' apply And.intro
    all_goals exact ⟨⟨_, rfl⟩, by simp [pd, Ty.dep], by simp [ph]⟩
  | .sum x y => by
    cases x <;> cases y <;> simp only [ables, List.append_nil, List.cons_append, List.nil_append, List.forall_mem_cons, List.not_mem_nil, false_implies, implies_true, and_true]
    all_goals (try split)
    all_goals (try subst_vars)
    all_goals (try simp only [List.append_nil, List.cons_append, List.nil_append, List.forall_mem_cons, List.not_mem_nil, false_implies, implies_true, and_true])
    all_goals (repeat' apply And.intro)
    all_goals exact ⟨⟨_, rfl⟩, by simp only [pd, Ty.dep]; omega, by simp [ph]⟩
  | .pair x y => by
    cases x <;> cases y <;> simp only [ables, List.append_nil, List.cons_append, List.nil_append, List.forall_mem_cons, List.not_mem_nil, false_implies, implies_true, and_true]
    all_goals (repeat' apply And.intro)
    all_goals exact ⟨⟨_, rfl⟩, by simp only [pd, Ty.dep]; omega, by simp [ph]⟩
end L_k62
set_option Elab.async false
set_option linter.all false
set_option maxRecDepth 100000
set_option autoImplicit false
set_option maxHeartbeats 0
namespace L_k62
open PySem PySem.Spec PyProof.Rows L2 PL
def lp0 (F : Fns) : GS := (sAsg 3 (gLst (aCons (gNp (PL.gTup (aCons (gC (.str "same")) (aCons (gFz (gVar 1)) aNil)))) aNil)))
def lp1 (F : Fns) : GS := (sIf (gB (gOp pEq (gOp pIx4 (gVar 1) (gC (.int 0))) (gC (.str "sum")))) (sSeq (sAppend 3 (PL.gTup (aCons (gC (.str "turn sum")) (aCons (gFz (gOp pIx4 (gVar 1) (gC (.int 1)))) (aCons (gFz (gOp pIx4 (gVar 1) (gC (.int 2)))) aNil))))) (sSeq (sIf (gB (gOp pEq (gOp pIx4 (gOp pIx4 (gVar 1) (gC (.int 1))) (gC (.int 0))) (gC (.str "sum")))) (sAppend 3 (PL.gTup (aCons (gC (.str "shift sum")) (aCons (gFz (gOp pIx4 (gOp pIx4 (gVar 1) (gC (.int 1))) (gC (.int 1)))) (aCons (gFz (gOp pIx4 (gOp pIx4 (gVar 1) (gC (.int 1))) (gC (.int 2)))) (aCons (gFz (gOp pIx4 (gVar 1) (gC (.int 2)))) aNil)))))) sNext) (sSeq (sIf (gB (gOp pEq (gOp pIx4 (gOp pIx4 (gVar 1) (gC (.int 2))) (gC (.int 0))) (gC (.str "sum")))) (sAppend 3 (PL.gTup (aCons (gC (.str "undo")) (aCons (gFz (PL.gTup (aCons (gC (.str "shift sum")) (aCons (gFz (gOp pIx4 (gVar 1) (gC (.int 1)))) (aCons (gFz (gOp pIx4 (gOp pIx4 (gVar 1) (gC (.int 2))) (gC (.int 1)))) (aCons (gFz (gOp pIx4 (gOp pIx4 (gVar 1) (gC (.int 2))) (gC (.int 2)))) aNil)))))) aNil)))) sNext) (sIf (gAndT (gB (gOp pEq (gOp pIx4 (gOp pIx4 (gVar 1) (gC (.int 1))) (gC (.int 0))) (gC (.str "pair")))) (gAndT (gB (gOp pEq (gOp pIx4 (gOp pIx4 (gVar 1) (gC (.int 2))) (gC (.int 0))) (gC (.str "pair")))) (gB (gOp pEq (gOp pIx4 (gOp pIx4 (gVar 1) (gC (.int 1))) (gC (.int 2))) (gOp pIx4 (gOp pIx4 (gVar 1) (gC (.int 2))) (gC (.int 2))))))) (sAppend 3 (PL.gTup (aCons (gC (.str "undo")) (aCons (gFz (PL.gTup (aCons (gC (.str "spread")) (aCons (gFz (gOp pIx4 (gOp pIx4 (gVar 1) (gC (.int 1))) (gC (.int 1)))) (aCons (gFz (gOp pIx4 (gOp pIx4 (gVar 1) (gC (.int 2))) (gC (.int 1)))) (aCons (gFz (gOp pIx4 (gOp pIx4 (gVar 1) (gC (.int 1))) (gC (.int 2)))) aNil)))))) aNil)))) sNext)))) sNext)
def lp2 (F : Fns) : GS := (sIf (gB (gOp pEq (gOp pIx4 (gVar 1) (gC (.int 0))) (gC (.str "pair")))) (sSeq (sAppend 3 (PL.gTup (aCons (gC (.str "turn pair")) (aCons (gFz (gOp pIx4 (gVar 1) (gC (.int 1)))) (aCons (gFz (gOp pIx4 (gVar 1) (gC (.int 2)))) aNil))))) (sSeq (sIf (gB (gOp pEq (gOp pIx4 (gOp pIx4 (gVar 1) (gC (.int 1))) (gC (.int 0))) (gC (.str "pair")))) (sAppend 3 (PL.gTup (aCons (gC (.str "shift pair")) (aCons (gFz (gOp pIx4 (gOp pIx4 (gVar 1) (gC (.int 1))) (gC (.int 1)))) (aCons (gFz (gOp pIx4 (gOp pIx4 (gVar 1) (gC (.int 1))) (gC (.int 2)))) (aCons (gFz (gOp pIx4 (gVar 1) (gC (.int 2)))) aNil)))))) sNext) (sSeq (sIf (gB (gOp pEq (gOp pIx4 (gOp pIx4 (gVar 1) (gC (.int 2))) (gC (.int 0))) (gC (.str "pair")))) (sAppend 3 (PL.gTup (aCons (gC (.str "undo")) (aCons (gFz (PL.gTup (aCons (gC (.str "shift pair")) (aCons (gFz (gOp pIx4 (gVar 1) (gC (.int 1)))) (aCons (gFz (gOp pIx4 (gOp pIx4 (gVar 1) (gC (.int 2))) (gC (.int 1)))) (aCons (gFz (gOp pIx4 (gOp pIx4 (gVar 1) (gC (.int 2))) (gC (.int 2)))) aNil)))))) aNil)))) sNext) (sSeq (sIf (gB (gOp pEq (gOp pIx4 (gOp pIx4 (gVar 1) (gC (.int 1))) (gC (.int 0))) (gC (.str "sum")))) (sAppend 3 (PL.gTup (aCons (gC (.str "spread")) (aCons (gFz (gOp pIx4 (gOp pIx4 (gVar 1) (gC (.int 1))) (gC (.int 1)))) (aCons (gFz (gOp pIx4 (gOp pIx4 (gVar 1) (gC (.int 1))) (gC (.int 2)))) (aCons (gFz (gOp pIx4 (gVar 1) (gC (.int 2)))) aNil)))))) sNext) (sIf (gB (gOp pEq (gOp pIx4 (gVar 1) (gC (.int 1))) (PL.gTup (aCons (gC (.str "one")) aNil)))) (sAppend 3 (PL.gTup (aCons (gC (.str "drop")) (aCons (gFz (gOp pIx4 (gVar 1) (gC (.int 2)))) aNil)))) sNext))))) sNext)
def lp3 (F : Fns) : GS := (sAppend 3 (PL.gTup (aCons (gC (.str "undo")) (aCons (gFz (PL.gTup (aCons (gC (.str "drop")) (aCons (gFz (gVar 1)) aNil)))) aNil))))
def lp4 (F : Fns) : GS := (sAsg 4 (gIf (gB (gOp pGtI (gVar 2) (gC (.int 0)))) (gCall (F 10) (aCons (gFz (gVar 0)) (aCons (gC (.int 4)) aNil))) (gC (.int 3))))
def lp5 (F : Fns) : GS := (sIf (gB (gOp pEq (gVar 4) (gC (.int 0)))) (sSeq (sAsg 5 (gCall (F 15) (aCons (gFz (gVar 0)) (aCons (gFz (gVar 1)) (aCons (gFz (gOp pSub (gVar 2) (gC (.int 1)))) aNil))))) (sRet (PL.gTup (aCons (gC (.str "then")) (aCons (gFz (gVar 5)) (aCons (gFz (gCall (F 15) (aCons (gFz (gVar 0)) (aCons (gFz (gOp pIx4 (gCall (F 16) (aCons (gFz (gVar 5)) aNil)) (gC (.int 1)))) (aCons (gFz (gOp pSub (gVar 2) (gC (.int 1)))) aNil))))) aNil)))))) sNext)
def lp6 (F : Fns) : GS := (sIf (gAndT (gB (gOp pEq (gVar 4) (gC (.int 1)))) (gB (gOp pNe (gOp pIx4 (gVar 1) (gC (.int 0))) (gC (.str "one"))))) (sSeq (sAsg 5 (gCall (F 15) (aCons (gFz (gVar 0)) (aCons (gFz (gOp pIx4 (gVar 1) (gC (.int 1)))) (aCons (gFz (gOp pSub (gVar 2) (gC (.int 1)))) aNil))))) (sRet (PL.gTup (aCons (gFz (gIf (gB (gOp pEq (gOp pIx4 (gVar 1) (gC (.int 0))) (gC (.str "sum")))) (gC (.str "either")) (gC (.str "both")))) (aCons (gFz (gVar 5)) (aCons (gFz (gCall (F 15) (aCons (gFz (gVar 0)) (aCons (gFz (gOp pIx4 (gVar 1) (gC (.int 2)))) (aCons (gFz (gOp pSub (gVar 2) (gC (.int 1)))) aNil))))) aNil)))))) sNext)
def lp7 (F : Fns) : GS := (sRet (gCall (F 11) (aCons (gFz (gVar 0)) (aCons (gFz (gVar 3)) aNil))))
theorem lp_eq (F : Fns) : m_law_program F = (sSeq (lp0 F) (sSeq (lp1 F) (sSeq (lp2 F) (sSeq (lp3 F) (sSeq (lp4 F) (sSeq (lp5 F) (sSeq (lp6 F) (lp7 F)))))))) := rfl
def tl (ps : List P) : T := .lst (ps.map fun p => .fz p.d)
def lpA (F : Fns) : GS := sSeq (lp0 F) (sSeq (lp1 F) (sSeq (lp2 F) (lp3 F)))
theorem sz_lt {n : Nat} (h : n ≤ 100000) : n < sizeLine := Nat.lt_of_le_of_lt h (by decide)
theorem able_ok (F : Fns) (a : Ty) (n : Int) (ob : List T) (hd : a.dep ≤ 50) : lpA F ⟨[.fz (.obj 0), .fz a.d, .fz (.int n), .hole, .hole, .hole], ob⟩ = .next ⟨[.fz (.obj 0), .fz a.d, .fz (.int n), tl (ables a), .hole, .hole], ob⟩ := by
  have z1 : 1 < sizeLine := sz_lt (by decide)
  have z2 : 2 < sizeLine := sz_lt (by decide)
  have z3 : 3 < sizeLine := sz_lt (by decide)
  have z4 : 4 < sizeLine := sz_lt (by decide)
  have z5 : 5 < sizeLine := sz_lt (by decide)
  have e1 := fun (s : S) (t : Ty) (h : t.dep ≤ 50) => pEq_ty (s := s) (a := t) (b := .one) h (by simp [Ty.dep])
  have one : Ty.one.d = .tup [.str "one"] := rfl
  rw [one] at e1
  cases a with
  | one => simp [lpA, lp0, lp1, lp2, lp3, tl, ables, P.d, Ty.d, sSeq, sIf, sAsg, sAsgT, sAug, sPar, sFor, sForget, sRet, sRetN, sAppend, sExtend, sNext, sBrk, sCont, sDrop, appv, isLst, gB, bv, gNp, npv, gOp, gUn, gVar, gC, gCB, gFz, fzv, gTru, tru, gAndT, gOrT, gNotT, gAnd, gOr, gNot, gIf, PL.gTup, gLst, gIsi, gIsi2, tyN_non, tyN_bl, tyN_int, tyN_str, tyN_tup, tyN_lst, tyN_tl, gSl, oNone, oSome, intv, aNil, aCons, iRange1, iRange2, rng1, rng2, iOf, itv, bLen, bAbs, bInt, bTuple, bList, lenT, pI, pAdd, pIx4, pIx, pDGet, dctAt, dat, look, tgName, forgets, retv, gCall, T.able, T.view, List.getElem?_cons_zero, List.getElem?_cons_succ, List.set_cons_zero, List.set_cons_succ, R.bind_ok, R.bindO_ok, List.length_cons, List.length_nil, dats, trees, lsd, fin, ables_map, views_map', ables_nil, views_nil, ables_cons, views_cons, filter_true', atI_c0, atI_c1, atI_c2, atI_nil, sz_0, sz_1, sz_2, sz_3, sz_4, sz_5, sz_6, sz_7, sz_8, sz_9, sz_10, sz_11, sz_12, sz_13, sz_14, sz_15, pEq_lit, pNe_lit, pIn_2, pIn_3, pIn_4, pNotIn_3, pNotIn_4, pEq_int, pNe_int, okD_lit, okD_int, okD_non, okD_bl, z1, z2, z3, z4, z5]
  | sum x y =>
    rw [Ty.dep] at hd
    cases x <;> cases y <;> (try simp only [Ty.dep] at hd)
    case pair.pair p c q c' =>
      have eq := fun s => pEq_ty (s := s) (a := c) (b := c') (by omega) (by omega)
      by_cases h : c = c'
      · subst h
        simp [lpA, lp0, lp1, lp2, lp3, tl, ables, P.d, Ty.d, sSeq, sIf, sAsg, sAsgT, sAug, sPar, sFor, sForget, sRet, sRetN, sAppend, sExtend, sNext, sBrk, sCont, sDrop, appv, isLst, gB, bv, gNp, npv, gOp, gUn, gVar, gC, gCB, gFz, fzv, gTru, tru, gAndT, gOrT, gNotT, gAnd, gOr, gNot, gIf, PL.gTup, gLst, gIsi, gIsi2, tyN_non, tyN_bl, tyN_int, tyN_str, tyN_tup, tyN_lst, tyN_tl, gSl, oNone, oSome, intv, aNil, aCons, iRange1, iRange2, rng1, rng2, iOf, itv, bLen, bAbs, bInt, bTuple, bList, lenT, pI, pAdd, pIx4, pIx, pDGet, dctAt, dat, look, tgName, forgets, retv, gCall, T.able, T.view, List.getElem?_cons_zero, List.getElem?_cons_succ, List.set_cons_zero, List.set_cons_succ, R.bind_ok, R.bindO_ok, List.length_cons, List.length_nil, dats, trees, lsd, fin, ables_map, views_map', ables_nil, views_nil, ables_cons, views_cons, filter_true', atI_c0, atI_c1, atI_c2, atI_nil, sz_0, sz_1, sz_2, sz_3, sz_4, sz_5, sz_6, sz_7, sz_8, sz_9, sz_10, sz_11, sz_12, sz_13, sz_14, sz_15, pEq_lit, pNe_lit, pIn_2, pIn_3, pIn_4, pNotIn_3, pNotIn_4, pEq_int, pNe_int, okD_lit, okD_int, okD_non, okD_bl, z1, z2, z3, z4, z5, eq]
      · simp [lpA, lp0, lp1, lp2, lp3, tl, ables, P.d, Ty.d, sSeq, sIf, sAsg, sAsgT, sAug, sPar, sFor, sForget, sRet, sRetN, sAppend, sExtend, sNext, sBrk, sCont, sDrop, appv, isLst, gB, bv, gNp, npv, gOp, gUn, gVar, gC, gCB, gFz, fzv, gTru, tru, gAndT, gOrT, gNotT, gAnd, gOr, gNot, gIf, PL.gTup, gLst, gIsi, gIsi2, tyN_non, tyN_bl, tyN_int, tyN_str, tyN_tup, tyN_lst, tyN_tl, gSl, oNone, oSome, intv, aNil, aCons, iRange1, iRange2, rng1, rng2, iOf, itv, bLen, bAbs, bInt, bTuple, bList, lenT, pI, pAdd, pIx4, pIx, pDGet, dctAt, dat, look, tgName, forgets, retv, gCall, T.able, T.view, List.getElem?_cons_zero, List.getElem?_cons_succ, List.set_cons_zero, List.set_cons_succ, R.bind_ok, R.bindO_ok, List.length_cons, List.length_nil, dats, trees, lsd, fin, ables_map, views_map', ables_nil, views_nil, ables_cons, views_cons, filter_true', atI_c0, atI_c1, atI_c2, atI_nil, sz_0, sz_1, sz_2, sz_3, sz_4, sz_5, sz_6, sz_7, sz_8, sz_9, sz_10, sz_11, sz_12, sz_13, sz_14, sz_15, pEq_lit, pNe_lit, pIn_2, pIn_3, pIn_4, pNotIn_3, pNotIn_4, pEq_int, pNe_int, okD_lit, okD_int, okD_non, okD_bl, z1, z2, z3, z4, z5, eq, h]
    all_goals simp [lpA, lp0, lp1, lp2, lp3, tl, ables, P.d, Ty.d, sSeq, sIf, sAsg, sAsgT, sAug, sPar, sFor, sForget, sRet, sRetN, sAppend, sExtend, sNext, sBrk, sCont, sDrop, appv, isLst, gB, bv, gNp, npv, gOp, gUn, gVar, gC, gCB, gFz, fzv, gTru, tru, gAndT, gOrT, gNotT, gAnd, gOr, gNot, gIf, PL.gTup, gLst, gIsi, gIsi2, tyN_non, tyN_bl, tyN_int, tyN_str, tyN_tup, tyN_lst, tyN_tl, gSl, oNone, oSome, intv, aNil, aCons, iRange1, iRange2, rng1, rng2, iOf, itv, bLen, bAbs, bInt, bTuple, bList, lenT, pI, pAdd, pIx4, pIx, pDGet, dctAt, dat, look, tgName, forgets, retv, gCall, T.able, T.view, List.getElem?_cons_zero, List.getElem?_cons_succ, List.set_cons_zero, List.set_cons_succ, R.bind_ok, R.bindO_ok, List.length_cons, List.length_nil, dats, trees, lsd, fin, ables_map, views_map', ables_nil, views_nil, ables_cons, views_cons, filter_true', atI_c0, atI_c1, atI_c2, atI_nil, sz_0, sz_1, sz_2, sz_3, sz_4, sz_5, sz_6, sz_7, sz_8, sz_9, sz_10, sz_11, sz_12, sz_13, sz_14, sz_15, pEq_lit, pNe_lit, pIn_2, pIn_3, pIn_4, pNotIn_3, pNotIn_4, pEq_int, pNe_int, okD_lit, okD_int, okD_non, okD_bl, z1, z2, z3, z4, z5]
  | pair x y =>
    rw [Ty.dep] at hd
    have ex := fun s => e1 s x (by omega)
    cases x <;> simp only [Ty.d] at ex <;> cases y <;> simp [lpA, lp0, lp1, lp2, lp3, tl, ables, P.d, Ty.d, sSeq, sIf, sAsg, sAsgT, sAug, sPar, sFor, sForget, sRet, sRetN, sAppend, sExtend, sNext, sBrk, sCont, sDrop, appv, isLst, gB, bv, gNp, npv, gOp, gUn, gVar, gC, gCB, gFz, fzv, gTru, tru, gAndT, gOrT, gNotT, gAnd, gOr, gNot, gIf, PL.gTup, gLst, gIsi, gIsi2, tyN_non, tyN_bl, tyN_int, tyN_str, tyN_tup, tyN_lst, tyN_tl, gSl, oNone, oSome, intv, aNil, aCons, iRange1, iRange2, rng1, rng2, iOf, itv, bLen, bAbs, bInt, bTuple, bList, lenT, pI, pAdd, pIx4, pIx, pDGet, dctAt, dat, look, tgName, forgets, retv, gCall, T.able, T.view, List.getElem?_cons_zero, List.getElem?_cons_succ, List.set_cons_zero, List.set_cons_succ, R.bind_ok, R.bindO_ok, List.length_cons, List.length_nil, dats, trees, lsd, fin, ables_map, views_map', ables_nil, views_nil, ables_cons, views_cons, filter_true', atI_c0, atI_c1, atI_c2, atI_nil, sz_0, sz_1, sz_2, sz_3, sz_4, sz_5, sz_6, sz_7, sz_8, sz_9, sz_10, sz_11, sz_12, sz_13, sz_14, sz_15, pEq_lit, pNe_lit, pIn_2, pIn_3, pIn_4, pNotIn_3, pNotIn_4, pEq_int, pNe_int, okD_lit, okD_int, okD_non, okD_bl, z1, z2, z3, z4, z5, ex]
end L_k62
set_option Elab.async false
set_option linter.all false
set_option maxRecDepth 100000
set_option autoImplicit false
set_option maxHeartbeats 0
namespace L_k62
open PySem PySem.Spec PyProof.Rows L2 PL
structure Drawn (n : Nat) (a : Ty) (p : P) : Prop where
  ty : ∃ t, typ p = some (a, t)
  d : pd p ≤ a.dep + 2 ^ n
  h : ph p ≤ n + 1
theorem tl_view (ps : List P) : fzs (ps.map fun p => T.fz p.d) = some (ps.map P.d) := fzs_map' P.d ps
theorem ables_ne (a : Ty) : (ables a).map P.d ≠ [] := by cases a <;> simp [ables]
theorem sSeq_assoc (g h k : GS) : sSeq (sSeq g h) k = sSeq g (sSeq h k) := by
  funext s
  unfold sSeq
  cases g s <;> rfl
theorem seq4 {a b c d e : GS} {s s1 : S} (h : sSeq a (sSeq b (sSeq c d)) s = .next s1) : sSeq a (sSeq b (sSeq c (sSeq d e))) s = e s1 := by
  rw [← sSeq_assoc c d e, ← sSeq_assoc b _ e, ← sSeq_assoc a _ e, sSeq_next h]
theorem lawprog_ok : ∀ (n k : Nat) (a : Ty) (l : List Int) (at_ : Nat) (rest : List T), n + 40 ≤ k → a.dep + 2 ^ n ≤ 20 → ∃ (p : P) (at' : Nat), Drawn n a p ∧ Fk k 15 [.obj 0, a.d, .int n] (wT l at_ :: rest) = .ok (.fz p.d) (wT l at' :: rest) := by
  intro n
  induction n with
  | zero =>
    intro k a l at_ rest hk hd
    obtain ⟨k, rfl⟩ : ∃ k', k = k' + 3 := ⟨k - 3, by omega⟩
    have ab := able_ok (Fk (k + 2)) a ((0 : Nat) : Int) (wT l at_ :: rest) (by omega)
    obtain ⟨d, hdm, ed⟩ := pick_lst (nx k) l at_ rest ((ables a).map P.d) (ables_ne a)
    rw [← pk (k + 1)] at ed
    obtain ⟨p, hp, rfl⟩ := List.mem_map.mp hdm
    have ok := ables_ok a p hp
    refine ⟨p, at_ + 1, ⟨ok.ty, by have := ok.d; simp; omega, by have := ok.h; omega⟩, ?_⟩
    have hm : ((ables a).map fun p => T.fz p.d) = ((ables a).map P.d).map T.fz := by rw [List.map_map]; rfl
    unfold tl at ab
    rw [hm] at ab
    generalize (ables a).map P.d = ds at ab ed
    unfold lpA at ab
    rw [Fk_law_program, fnD_fin, lp_eq]
    simp only [List.map_cons, List.map_nil, List.replicate, List.cons_append, List.nil_append]
    rw [seq4 ab]
    simp [lp4, lp5, lp6, lp7, sSeq, sIf, sAsg, sAsgT, sAug, sPar, sFor, sForget, sRet, sRetN, sAppend, sExtend, sNext, sBrk, sCont, sDrop, appv, isLst, gB, bv, gNp, npv, gOp, gUn, gVar, gC, gCB, gFz, fzv, gTru, tru, gAndT, gOrT, gNotT, gAnd, gOr, gNot, gIf, PL.gTup, gLst, gIsi, gIsi2, tyN_non, tyN_bl, tyN_int, tyN_str, tyN_tup, tyN_lst, tyN_tl, gSl, oNone, oSome, intv, aNil, aCons, iRange1, iRange2, rng1, rng2, iOf, itv, bLen, bAbs, bInt, bTuple, bList, lenT, pI, pAdd, pIx4, pIx, pDGet, dctAt, dat, look, tgName, forgets, retv, gCall, T.able, T.view, List.getElem?_cons_zero, List.getElem?_cons_succ, List.set_cons_zero, List.set_cons_succ, R.bind_ok, R.bindO_ok, List.length_cons, List.length_nil, dats, trees, lsd, fin, ables_map, views_map', ables_nil, views_nil, ables_cons, views_cons, filter_true', atI_c0, atI_c1, atI_c2, atI_nil, sz_0, sz_1, sz_2, sz_3, sz_4, sz_5, sz_6, sz_7, sz_8, sz_9, sz_10, sz_11, sz_12, sz_13, sz_14, sz_15, pEq_lit, pNe_lit, pIn_2, pIn_3, pIn_4, pNotIn_3, pNotIn_4, pEq_int, pNe_int, okD_lit, okD_int, okD_non, okD_bl, ed]
  | succ n ih =>
    intro k a l at_ rest hk hd
    obtain ⟨k, rfl⟩ : ∃ k', k = k' + 3 := ⟨k - 3, by omega⟩
    have hpow : 2 ^ (n + 1) = 2 ^ n + 2 ^ n := by rw [Nat.pow_succ]; omega
    have ppos : 0 < 2 ^ n := Nat.pow_pos (by decide)
    have ab := able_ok (Fk (k + 2)) a ((n + 1 : Nat) : Int) (wT l at_ :: rest) (by omega)
    have en := next_ok l at_ 4 rest (by decide)
    rw [← nx (k + 1)] at en
    obtain ⟨g1, g2⟩ := nxt_lt (l := l) (at_ := at_) (many := 4) (by decide)
    have hsub : ((n : Int) + 1 - 1) = n := by omega
    have hpos : (0 : Int) < (n : Int) + 1 := by omega
    by_cases h0 : nxt l at_ 4 = 0
    · obtain ⟨p, a1, dp, e1⟩ := ih (k + 2) a l (at_ + 1) rest (by omega) (by omega)
      obtain ⟨t, ht⟩ := dp.ty
      have dt := typ_dep p _ _ ht
      have := dp.d
      have := dp.h
      have lt := law_types_ok p (k + 2) (wT l a1 :: rest) (by omega) (by omega)
      rw [ht, tyD_s] at lt
      obtain ⟨q, a2, dq, e2⟩ := ih (k + 2) t l a1 rest (by omega) (by omega)
      obtain ⟨u, hu⟩ := dq.ty
      have := dq.d
      have := dq.h
      refine ⟨.thn p q, a2, ⟨⟨u, by simp [typ, ht, hu]⟩, by simp only [pd]; omega, by simp only [ph]; omega⟩, ?_⟩
      rw [h0] at en
      rw [Fk_law_program, fnD_fin, lp_eq]
      simp only [List.map_cons, List.map_nil, List.replicate, List.cons_append, List.nil_append]
      rw [seq4 ab]
      simp [lp4, lp5, lp6, lp7, P.d, sSeq, sIf, sAsg, sAsgT, sAug, sPar, sFor, sForget, sRet, sRetN, sAppend, sExtend, sNext, sBrk, sCont, sDrop, appv, isLst, gB, bv, gNp, npv, gOp, gUn, gVar, gC, gCB, gFz, fzv, gTru, tru, gAndT, gOrT, gNotT, gAnd, gOr, gNot, gIf, PL.gTup, gLst, gIsi, gIsi2, tyN_non, tyN_bl, tyN_int, tyN_str, tyN_tup, tyN_lst, tyN_tl, gSl, oNone, oSome, intv, aNil, aCons, iRange1, iRange2, rng1, rng2, iOf, itv, bLen, bAbs, bInt, bTuple, bList, lenT, pI, pAdd, pIx4, pIx, pDGet, dctAt, dat, look, tgName, forgets, retv, gCall, T.able, T.view, List.getElem?_cons_zero, List.getElem?_cons_succ, List.set_cons_zero, List.set_cons_succ, R.bind_ok, R.bindO_ok, List.length_cons, List.length_nil, dats, trees, lsd, fin, ables_map, views_map', ables_nil, views_nil, ables_cons, views_cons, filter_true', atI_c0, atI_c1, atI_c2, atI_nil, sz_0, sz_1, sz_2, sz_3, sz_4, sz_5, sz_6, sz_7, sz_8, sz_9, sz_10, sz_11, sz_12, sz_13, sz_14, sz_15, pEq_lit, pNe_lit, pIn_2, pIn_3, pIn_4, pNotIn_3, pNotIn_4, pEq_int, pNe_int, okD_lit, okD_int, okD_non, okD_bl, en, hsub, hpos, e1, lt, e2]
    · have h0b : (nxt l at_ 4 == 0) = false := beq_eq_false_iff_ne.mpr h0
      have pick : (nxt l at_ 4 = 1 → a = .one) → ∃ (p : P) (at' : Nat), Drawn (n + 1) a p ∧ Fk (k + 3) 15 [.obj 0, a.d, .int ((n + 1 : Nat) : Int)] (wT l at_ :: rest) = .ok (.fz p.d) (wT l at' :: rest) := fun hone => by
        obtain ⟨d, hdm, ed⟩ := pick_lst (nx k) l (at_ + 1) rest ((ables a).map P.d) (ables_ne a)
        rw [← pk (k + 1)] at ed
        obtain ⟨p, hp, rfl⟩ := List.mem_map.mp hdm
        have ok := ables_ok a p hp
        refine ⟨p, at_ + 1 + 1, ⟨ok.ty, by have := ok.d; omega, by have := ok.h; omega⟩, ?_⟩
        have hm : ((ables a).map fun p => T.fz p.d) = ((ables a).map P.d).map T.fz := by rw [List.map_map]; rfl
        unfold tl at ab
        rw [hm] at ab
        generalize (ables a).map P.d = ds at ab ed
        unfold lpA at ab
        rw [Fk_law_program, fnD_fin, lp_eq]
        simp only [List.map_cons, List.map_nil, List.replicate, List.cons_append, List.nil_append]
        rw [seq4 ab]
        by_cases h1 : nxt l at_ 4 = 1
        · have := hone h1
          subst this
          rw [h1] at en
          simp only [Ty.d] at en ed ⊢
          simp [lp4, lp5, lp6, lp7, sSeq, sIf, sAsg, sAsgT, sAug, sPar, sFor, sForget, sRet, sRetN, sAppend, sExtend, sNext, sBrk, sCont, sDrop, appv, isLst, gB, bv, gNp, npv, gOp, gUn, gVar, gC, gCB, gFz, fzv, gTru, tru, gAndT, gOrT, gNotT, gAnd, gOr, gNot, gIf, PL.gTup, gLst, gIsi, gIsi2, tyN_non, tyN_bl, tyN_int, tyN_str, tyN_tup, tyN_lst, tyN_tl, gSl, oNone, oSome, intv, aNil, aCons, iRange1, iRange2, rng1, rng2, iOf, itv, bLen, bAbs, bInt, bTuple, bList, lenT, pI, pAdd, pIx4, pIx, pDGet, dctAt, dat, look, tgName, forgets, retv, gCall, T.able, T.view, List.getElem?_cons_zero, List.getElem?_cons_succ, List.set_cons_zero, List.set_cons_succ, R.bind_ok, R.bindO_ok, List.length_cons, List.length_nil, dats, trees, lsd, fin, ables_map, views_map', ables_nil, views_nil, ables_cons, views_cons, filter_true', atI_c0, atI_c1, atI_c2, atI_nil, sz_0, sz_1, sz_2, sz_3, sz_4, sz_5, sz_6, sz_7, sz_8, sz_9, sz_10, sz_11, sz_12, sz_13, sz_14, sz_15, pEq_lit, pNe_lit, pIn_2, pIn_3, pIn_4, pNotIn_3, pNotIn_4, pEq_int, pNe_int, okD_lit, okD_int, okD_non, okD_bl, en, hsub, hpos, ed]
        · have h1b : (nxt l at_ 4 == 1) = false := beq_eq_false_iff_ne.mpr h1
          simp [lp4, lp5, lp6, lp7, sSeq, sIf, sAsg, sAsgT, sAug, sPar, sFor, sForget, sRet, sRetN, sAppend, sExtend, sNext, sBrk, sCont, sDrop, appv, isLst, gB, bv, gNp, npv, gOp, gUn, gVar, gC, gCB, gFz, fzv, gTru, tru, gAndT, gOrT, gNotT, gAnd, gOr, gNot, gIf, PL.gTup, gLst, gIsi, gIsi2, tyN_non, tyN_bl, tyN_int, tyN_str, tyN_tup, tyN_lst, tyN_tl, gSl, oNone, oSome, intv, aNil, aCons, iRange1, iRange2, rng1, rng2, iOf, itv, bLen, bAbs, bInt, bTuple, bList, lenT, pI, pAdd, pIx4, pIx, pDGet, dctAt, dat, look, tgName, forgets, retv, gCall, T.able, T.view, List.getElem?_cons_zero, List.getElem?_cons_succ, List.set_cons_zero, List.set_cons_succ, R.bind_ok, R.bindO_ok, List.length_cons, List.length_nil, dats, trees, lsd, fin, ables_map, views_map', ables_nil, views_nil, ables_cons, views_cons, filter_true', atI_c0, atI_c1, atI_c2, atI_nil, sz_0, sz_1, sz_2, sz_3, sz_4, sz_5, sz_6, sz_7, sz_8, sz_9, sz_10, sz_11, sz_12, sz_13, sz_14, sz_15, pEq_lit, pNe_lit, pIn_2, pIn_3, pIn_4, pNotIn_3, pNotIn_4, pEq_int, pNe_int, okD_lit, okD_int, okD_non, okD_bl, en, hsub, hpos, h0, h0b, h1, h1b, ed]
      by_cases h1 : nxt l at_ 4 = 1
      · rw [h1] at en
        cases a with
        | one => exact pick fun _ => rfl
        | sum x y =>
          rw [Ty.dep] at hd
          obtain ⟨p, a1, dp, e1⟩ := ih (k + 2) x l (at_ + 1) rest (by omega) (by omega)
          obtain ⟨q, a2, dq, e2⟩ := ih (k + 2) y l a1 rest (by omega) (by omega)
          obtain ⟨t, ht⟩ := dp.ty
          obtain ⟨u, hu⟩ := dq.ty
          have := dp.d
          have := dp.h
          have := dq.d
          have := dq.h
          refine ⟨.eth p q, a2, ⟨⟨_, by simp [typ, ht, hu]; rfl⟩, by simp only [pd, Ty.dep]; omega, by simp only [ph]; omega⟩, ?_⟩
          rw [Fk_law_program, fnD_fin, lp_eq]
          simp only [List.map_cons, List.map_nil, List.replicate, List.cons_append, List.nil_append]
          rw [seq4 ab]
          simp [lp4, lp5, lp6, lp7, P.d, Ty.d, sSeq, sIf, sAsg, sAsgT, sAug, sPar, sFor, sForget, sRet, sRetN, sAppend, sExtend, sNext, sBrk, sCont, sDrop, appv, isLst, gB, bv, gNp, npv, gOp, gUn, gVar, gC, gCB, gFz, fzv, gTru, tru, gAndT, gOrT, gNotT, gAnd, gOr, gNot, gIf, PL.gTup, gLst, gIsi, gIsi2, tyN_non, tyN_bl, tyN_int, tyN_str, tyN_tup, tyN_lst, tyN_tl, gSl, oNone, oSome, intv, aNil, aCons, iRange1, iRange2, rng1, rng2, iOf, itv, bLen, bAbs, bInt, bTuple, bList, lenT, pI, pAdd, pIx4, pIx, pDGet, dctAt, dat, look, tgName, forgets, retv, gCall, T.able, T.view, List.getElem?_cons_zero, List.getElem?_cons_succ, List.set_cons_zero, List.set_cons_succ, R.bind_ok, R.bindO_ok, List.length_cons, List.length_nil, dats, trees, lsd, fin, ables_map, views_map', ables_nil, views_nil, ables_cons, views_cons, filter_true', atI_c0, atI_c1, atI_c2, atI_nil, sz_0, sz_1, sz_2, sz_3, sz_4, sz_5, sz_6, sz_7, sz_8, sz_9, sz_10, sz_11, sz_12, sz_13, sz_14, sz_15, pEq_lit, pNe_lit, pIn_2, pIn_3, pIn_4, pNotIn_3, pNotIn_4, pEq_int, pNe_int, okD_lit, okD_int, okD_non, okD_bl, en, hsub, hpos, e1, e2]
        | pair x y =>
          rw [Ty.dep] at hd
          obtain ⟨p, a1, dp, e1⟩ := ih (k + 2) x l (at_ + 1) rest (by omega) (by omega)
          obtain ⟨q, a2, dq, e2⟩ := ih (k + 2) y l a1 rest (by omega) (by omega)
          obtain ⟨t, ht⟩ := dp.ty
          obtain ⟨u, hu⟩ := dq.ty
          have := dp.d
          have := dp.h
          have := dq.d
          have := dq.h
          refine ⟨.bth p q, a2, ⟨⟨_, by simp [typ, ht, hu]; rfl⟩, by simp only [pd, Ty.dep]; omega, by simp only [ph]; omega⟩, ?_⟩
          rw [Fk_law_program, fnD_fin, lp_eq]
          simp only [List.map_cons, List.map_nil, List.replicate, List.cons_append, List.nil_append]
          rw [seq4 ab]
          simp [lp4, lp5, lp6, lp7, P.d, Ty.d, sSeq, sIf, sAsg, sAsgT, sAug, sPar, sFor, sForget, sRet, sRetN, sAppend, sExtend, sNext, sBrk, sCont, sDrop, appv, isLst, gB, bv, gNp, npv, gOp, gUn, gVar, gC, gCB, gFz, fzv, gTru, tru, gAndT, gOrT, gNotT, gAnd, gOr, gNot, gIf, PL.gTup, gLst, gIsi, gIsi2, tyN_non, tyN_bl, tyN_int, tyN_str, tyN_tup, tyN_lst, tyN_tl, gSl, oNone, oSome, intv, aNil, aCons, iRange1, iRange2, rng1, rng2, iOf, itv, bLen, bAbs, bInt, bTuple, bList, lenT, pI, pAdd, pIx4, pIx, pDGet, dctAt, dat, look, tgName, forgets, retv, gCall, T.able, T.view, List.getElem?_cons_zero, List.getElem?_cons_succ, List.set_cons_zero, List.set_cons_succ, R.bind_ok, R.bindO_ok, List.length_cons, List.length_nil, dats, trees, lsd, fin, ables_map, views_map', ables_nil, views_nil, ables_cons, views_cons, filter_true', atI_c0, atI_c1, atI_c2, atI_nil, sz_0, sz_1, sz_2, sz_3, sz_4, sz_5, sz_6, sz_7, sz_8, sz_9, sz_10, sz_11, sz_12, sz_13, sz_14, sz_15, pEq_lit, pNe_lit, pIn_2, pIn_3, pIn_4, pNotIn_3, pNotIn_4, pEq_int, pNe_int, okD_lit, okD_int, okD_non, okD_bl, en, hsub, hpos, e1, e2]
      · exact pick fun h => absurd h h1
end L_k62
set_option Elab.async false
set_option linter.all false
set_option maxRecDepth 100000
set_option autoImplicit false
set_option maxHeartbeats 0
namespace L_k62
open PySem PySem.Spec PyProof.Rows L2 PL
def bd0 (F : Fns) : GS := (sAsg 3 (gCall (F 13) (aCons (gFz (gVar 1)) (aCons (gC (.int 3)) aNil))))
def bd1 (F : Fns) : GS := (sAsg 4 (gCall (F 15) (aCons (gFz (gVar 1)) (aCons (gFz (gVar 3)) (aCons (gC (.int 3)) aNil)))))
def bd2 (F : Fns) : GS := (sIf (gB (gOp pEq (gCall (F 10) (aCons (gFz (gVar 1)) (aCons (gC (.int 4)) aNil))) (gC (.int 0)))) (sAsg 4 (PL.gTup (aCons (gC (.str "undo")) (aCons (gFz (gVar 4)) aNil)))) sNext)
def bd3 (F : Fns) : GS := (sAsg 5 (gCall (F 16) (aCons (gFz (gVar 4)) aNil)))
def bd4 (F : Fns) : GS := (sIf (gNotT (gTru (gCall (F 12) (aCons (gFz (gCall (F 3) (aCons (gFz (gVar 4)) aNil))) (aCons (gFz (gVar 5)) aNil))))) (sRet (gC (.bl false))) sNext)
def bd5 (F : Fns) : GS := (sAsg 6 (gCall (F 7) (aCons (gFz (gVar 4)) aNil)))
def bd6 (F : Fns) : GS := (sIf (gOrT (gNotT (gTru (gCall (F 19) (aCons (gFz (gVar 6)) aNil)))) (gOrT (gNotT (gTru (gCall (F 18) (aCons (gFz (gVar 6)) aNil)))) (gOrT (gNotT (gTru (gCall (F 12) (aCons (gFz (gCall (F 3) (aCons (gFz (gVar 6)) aNil))) (aCons (gFz (gRev (gVar 5))) aNil))))) (gB (gOp pNe (gCall (F 16) (aCons (gFz (gVar 6)) aNil)) (gRev (gVar 5))))))) (sRet (gC (.bl false))) sNext)
def in0 (F : Fns) : GS := (sAsg 9 (gCall (F 17) (aCons (gFz (gVar 4)) (aCons (gFz (gVar 7)) aNil))))
def in1 (F : Fns) : GS := (sIf (gOrT (gNotT (gTru (gCall (F 12) (aCons (gFz (gCall (F 5) (aCons (gFz (gVar 4)) (aCons (gFz (gVar 7)) aNil)))) (aCons (gFz (gVar 9)) aNil))))) (gOrT (gNotT (gTru (gCall (F 12) (aCons (gFz (gCall (F 5) (aCons (gFz (gVar 6)) (aCons (gFz (gVar 9)) aNil)))) (aCons (gFz (gVar 7)) aNil))))) (gB (gOp pNe (gCall (F 17) (aCons (gFz (gVar 6)) (aCons (gFz (gVar 9)) aNil))) (gVar 7))))) (sRet (gC (.bl false))) sNext)
def in2 (F : Fns) : GS := (sForget [7, 9] sNext)
def inB (F : Fns) : GS := (sSeq (in0 F) (sSeq (in1 F) (in2 F)))
def bd7 (F : Fns) : GS := (sFor (iOf (gSl (gCall (F 14) (aCons (gFz (gOp pIx4 (gVar 5) (gC (.int 0)))) aNil)) oNone (oSome (gC (.int 12))))) (tgName 7) (inB F))
def bd8 (F : Fns) : GS := (sAsg 8 (PL.gTup (aCons (gC (.str "then")) (aCons (gFz (gVar 4)) (aCons (gFz (gCall (F 15) (aCons (gFz (gVar 1)) (aCons (gFz (gCall (F 13) (aCons (gFz (gVar 1)) (aCons (gC (.int 2)) aNil)))) (aCons (gC (.int 1)) aNil))))) aNil)))))
def bd9 (F : Fns) : GS := (sIf (gOrT (gNotT (gTru (gCall (F 12) (aCons (gFz (gCall (F 3) (aCons (gFz (gVar 8)) aNil))) (aCons (gFz (gCall (F 16) (aCons (gFz (gVar 8)) aNil))) aNil))))) (gNotT (gTru (gCall (F 12) (aCons (gFz (gOp pIsN (gCall (F 3) (aCons (gFz (PL.gTup (aCons (gC (.str "either")) (aCons (gFz (PL.gTup (aCons (gC (.str "same")) (aCons (gFz (gVar 3)) aNil)))) (aCons (gFz (gVar 8)) aNil))))) aNil)) (gC .non))) (aCons (gFz (gOp pIsN (gCall (F 16) (aCons (gFz (gVar 8)) aNil)) (gC .non))) aNil)))))) (sRet (gC (.bl false))) sNext)
def bd10 (F : Fns) : GS := (sForget [2, 3, 4, 5, 6, 7, 8, 9] sNext)
def body (F : Fns) : GS := (sSeq (bd0 F) (sSeq (bd1 F) (sSeq (bd2 F) (sSeq (bd3 F) (sSeq (bd4 F) (sSeq (bd5 F) (sSeq (bd6 F) (sSeq (bd7 F) (sSeq (bd8 F) (sSeq (bd9 F) (bd10 F)))))))))))
theorem m_law_eq (F : Fns) : m_law F = sSeq (sAsg 1 (gDictOb ["draws", "at"] [gFz (gCall (F 9) (aCons (gFz (gVar 0)) (aCons (gC (.int 700)) aNil))), gFz (gC (.int 0))])) (sSeq (sFor (iRange1 (aCons (gC (.int 5)) aNil)) (tgName 2) (body F)) (sRet (gC (.bl true)))) := rfl
end L_k62
set_option Elab.async false
set_option linter.all false
set_option maxRecDepth 100000
set_option autoImplicit false
set_option maxHeartbeats 0
namespace L_k62
open PySem PySem.Spec PyProof.Rows L2 PL
def cap : Nat → Nat
  | 0 => 1
  | n + 1 => 2 * (cap n * cap n)
theorem cap_pos : ∀ n, 1 ≤ cap n
  | 0 => Nat.le_refl _
  | n + 1 => by have := cap_pos n; have := Nat.mul_le_mul this this; rw [cap]; omega
theorem cap_succ (n : Nat) : cap n ≤ cap (n + 1) := by
  have h := cap_pos n
  have := Nat.mul_le_mul_left (cap n) h
  rw [cap]; omega
theorem cap_mono {n m : Nat} (h : n ≤ m) : cap n ≤ cap m := by
  induction h with
  | refl => exact Nat.le_refl _
  | step _ ih => exact Nat.le_trans ih (cap_succ _)
theorem n_cap : ∀ t : Ty, t.n ≤ cap t.dep
  | .one => Nat.le_refl _
  | .sum a b => by
    have h1 := Nat.le_trans (n_cap a) (cap_mono (Nat.le_max_left a.dep b.dep))
    have h2 := Nat.le_trans (n_cap b) (cap_mono (Nat.le_max_right a.dep b.dep))
    have h := cap_pos (max a.dep b.dep)
    have := Nat.mul_le_mul_left (cap (max a.dep b.dep)) h
    rw [Ty.n, Ty.dep, cap]; omega
  | .pair a b => by
    have h1 := Nat.le_trans (n_cap a) (cap_mono (Nat.le_max_left a.dep b.dep))
    have h2 := Nat.le_trans (n_cap b) (cap_mono (Nat.le_max_right a.dep b.dep))
    have := Nat.mul_le_mul h1 h2
    rw [Ty.n, Ty.dep, cap]; omega
theorem n_small {t : Ty} (h : t.dep ≤ 3) : t.n ≤ 128 := Nat.le_trans (n_cap t) (cap_mono h)
mutual
theorem und_pd : ∀ p : P, pd (und' p) = pd p ∧ ph (und' p) ≤ ph p + 1
  | .same a => by simp [und', pd, ph]
  | .turnS a b => by simp [und', pd, ph, Nat.max_comm]
  | .turnP a b => by simp [und', pd, ph, Nat.max_comm]
  | .thn p q => by have := und_pd p; have := und_pd q; simp only [und', pd, ph]; omega
  | .eth p q => by have := und_pd p; have := und_pd q; simp only [und', pd, ph]; omega
  | .bth p q => by have := und_pd p; have := und_pd q; simp only [und', pd, ph]; omega
  | .und p => by have := wu_pd p; simp only [und', pd, ph]; omega
  | .drop a => by simp [und', pd, ph]
  | .spread a b c => by simp [und', pd, ph]
  | .shiftS a b c => by simp [und', pd, ph]
  | .shiftP a b c => by simp [und', pd, ph]
theorem wu_pd : ∀ p : P, pd (wu p) = pd p ∧ ph (wu p) ≤ ph p + 1
  | .und p => by have := und_pd p; simp only [wu, pd, ph]; omega
  | .thn p q => by have := wu_pd p; have := wu_pd q; simp only [wu, pd, ph]; omega
  | .eth p q => by have := wu_pd p; have := wu_pd q; simp only [wu, pd, ph]; omega
  | .bth p q => by have := wu_pd p; have := wu_pd q; simp only [wu, pd, ph]; omega
  | .same a => by simp [wu, pd, ph]
  | .turnS a b => by simp [wu, pd, ph]
  | .turnP a b => by simp [wu, pd, ph]
  | .drop a => by simp [wu, pd, ph]
  | .spread a b c => by simp [wu, pd, ph]
  | .shiftS a b c => by simp [wu, pd, ph]
  | .shiftP a b c => by simp [wu, pd, ph]
end
end L_k62
set_option Elab.async false
set_option linter.all false
set_option maxRecDepth 100000
set_option autoImplicit false
set_option maxHeartbeats 0
namespace L_k62
open PySem PySem.Spec PyProof.Rows L2 PL
theorem tyD_alk (o : Option (Ty × Ty)) : alk (tyD o) (tyD o) = true := by
  cases o with
  | none => rfl
  | some x => obtain ⟨a, b⟩ := x; simp [tyD_s, alk, alks, ty_alk]
theorem tyD_ok {p : P} (h : pd p ≤ 50) (n : Nat) (hn : 52 ≤ n) : okD n (tyD (typ p)) = true := by
  cases hp : typ p with
  | none => exact okD_non _
  | some x =>
    obtain ⟨a, b⟩ := x
    have := typ_dep p _ _ hp
    obtain ⟨m, rfl⟩ : ∃ m, n = m + 1 := ⟨n - 1, by omega⟩
    exact okD_tup_mk (by simp) (by
      intro d hd
      simp at hd
      rcases hd with rfl | rfl
      · exact okD_mono _ _ _ (by omega) (ty_ok a 50 (by omega))
      · exact okD_mono _ _ _ (by omega) (ty_ok b 50 (by omega)))
theorem alike_ty {p : P} (h : pd p ≤ 50) (k : Nat) (hk : 70 ≤ k) (ob : List T) : Fk k 12 [tyD (typ p), tyD (typ p)] ob = .ok (.fz (.bl true)) ob := by
  have := alike_ok (j := 12) (G := Fk) al 60 k (tyD (typ p)) (tyD (typ p)) ob (by omega) (tyD_ok h 60 (by omega)) (tyD_ok h 64 (by omega)) (tyD_ok h 64 (by omega))
  rw [this, tyD_alk]
theorem alike_val {t : Ty} (h : t.dep ≤ 50) {v : D} (hv : v ∈ t.vals) (k : Nat) (hk : 70 ≤ k) (ob : List T) : Fk k 12 [v, v] ob = .ok (.fz (.bl true)) ob := by
  have := alike_ok (j := 12) (G := Fk) al 60 k v v ob (by omega) (okD_mono _ _ _ (by omega) (val_ok t 50 h v hv)) (val64 h hv) (val64 h hv)
  rw [this, val_alk t v hv]
theorem alike_b (k : Nat) (b : Bool) (ob : List T) : Fk (k + 1) 12 [.bl b, .bl b] ob = .ok (.fz (.bl true)) ob := by
  have := alike_ok (j := 12) (G := Fk) al 0 (k + 1) (.bl b) (.bl b) ob (by omega) rfl rfl rfl
  rw [this]
  cases b <;> rfl
end L_k62
set_option Elab.async false
set_option linter.all false
set_option maxRecDepth 100000
set_option autoImplicit false
set_option maxHeartbeats 0
namespace L_k62
open PySem PySem.Spec PyProof.Rows L2 PL
/-- a program that the loop has: typed, of a depth -/
structure Prog (p : P) (s t : Ty) : Prop where
  ty : typ p = some (s, t)
  d : pd p ≤ 12
  h : ph p ≤ 6
  n : s.n ≤ 128
theorem in_ok (k : Nat) (hk : 80 ≤ k) (l : List Int) (x0 tn a ty wr : T) (p : P) (s t : Ty) (h : Prog p s t) (at_ : Nat) (rest : List T) (v : D) (hv : v ∈ s.vals) :
    ∃ rest', inB (Fk k) ⟨[x0, .fz (.obj 0), tn, a, .fz p.d, ty, .fz (und' p).d, .fz v, wr, .hole], wT l at_ :: rest⟩ = .next ⟨[x0, .fz (.obj 0), tn, a, .fz p.d, ty, .fz (und' p).d, .hole, wr, .hole], wT l at_ :: rest'⟩ := by
  have hd := h.d
  have hh := h.h
  have hn := h.n
  have nn := typ_n p _ _ h.ty
  have dd := typ_dep p _ _ h.ty
  have hu : typ (und' p) = some (t, s) := by rw [und_typ, h.ty]; rfl
  obtain ⟨u1, u2⟩ := und_pd p
  obtain ⟨i1, i2⟩ := iso p _ _ h.ty
  obtain ⟨m1, m2⟩ := i1 v hv
  obtain ⟨x1, e1⟩ := lawdone_ok p _ _ h.ty (by omega) (by omega) k (wT l at_ :: rest) v hv (by omega)
  rw [List.cons_append] at e1
  have e2 := (done_ok p _ _ h.ty).1 k (wT l at_ :: (rest ++ x1)) v hv (by omega)
  have e3 := (done_ok (und' p) _ _ hu).1 k (wT l at_ :: (rest ++ x1)) (run p v) m1 (by omega)
  rw [(und_run p _).1, m2] at e3
  obtain ⟨x2, e4⟩ := lawdone_ok (und' p) _ _ hu (by omega) (by omega) k (wT l at_ :: (rest ++ x1)) (run p v) m1 (by omega)
  rw [(und_run p _).1, m2, List.cons_append] at e4
  have a1 := alike_val (t := t) (by omega) m1 k (by omega) (wT l at_ :: (rest ++ x1))
  have a2 := alike_val (t := s) (by omega) hv k (by omega) (wT l at_ :: (rest ++ x1))
  have ne := fun st => pNe_fz (s := st) (a := v) (b := v) (val64 (t := s) (by omega) hv) (val64 (t := s) (by omega) hv)
  rw [(val_eq s v v hv hv).mpr rfl] at ne
  refine ⟨rest ++ x1 ++ x2, ?_⟩
  unfold inB
  rw [sSeq_next (s1 := ⟨[x0, .fz (.obj 0), tn, a, .fz p.d, ty, .fz (und' p).d, .fz v, wr, .fz (run p v)], wT l at_ :: (rest ++ x1)⟩) (by simp [in0, sSeq, sIf, sAsg, sAsgT, sAug, sPar, sFor, sForget, sRet, sRetN, sAppend, sExtend, sNext, sBrk, sCont, sDrop, appv, isLst, gB, bv, gNp, npv, gOp, gUn, gVar, gC, gCB, gFz, fzv, gTru, tru, gAndT, gOrT, gNotT, gAnd, gOr, gNot, gIf, PL.gTup, gLst, gIsi, gIsi2, tyN_non, tyN_bl, tyN_int, tyN_str, tyN_tup, tyN_lst, tyN_tl, gSl, oNone, oSome, intv, aNil, aCons, iRange1, iRange2, rng1, rng2, iOf, itv, bLen, bAbs, bInt, bTuple, bList, lenT, pI, pAdd, pIx4, pIx, pDGet, dctAt, dat, look, tgName, forgets, retv, gCall, T.able, T.view, List.getElem?_cons_zero, List.getElem?_cons_succ, List.set_cons_zero, List.set_cons_succ, R.bind_ok, R.bindO_ok, List.length_cons, List.length_nil, dats, trees, lsd, fin, ables_map, views_map', ables_nil, views_nil, ables_cons, views_cons, filter_true', atI_c0, atI_c1, atI_c2, atI_nil, sz_0, sz_1, sz_2, sz_3, sz_4, sz_5, sz_6, sz_7, sz_8, sz_9, sz_10, sz_11, sz_12, sz_13, sz_14, sz_15, e1])]
  rw [sSeq_next (s1 := ⟨[x0, .fz (.obj 0), tn, a, .fz p.d, ty, .fz (und' p).d, .fz v, wr, .fz (run p v)], wT l at_ :: (rest ++ x1 ++ x2)⟩) (by simp [in1, sSeq, sIf, sAsg, sAsgT, sAug, sPar, sFor, sForget, sRet, sRetN, sAppend, sExtend, sNext, sBrk, sCont, sDrop, appv, isLst, gB, bv, gNp, npv, gOp, gUn, gVar, gC, gCB, gFz, fzv, gTru, tru, gAndT, gOrT, gNotT, gAnd, gOr, gNot, gIf, PL.gTup, gLst, gIsi, gIsi2, tyN_non, tyN_bl, tyN_int, tyN_str, tyN_tup, tyN_lst, tyN_tl, gSl, oNone, oSome, intv, aNil, aCons, iRange1, iRange2, rng1, rng2, iOf, itv, bLen, bAbs, bInt, bTuple, bList, lenT, pI, pAdd, pIx4, pIx, pDGet, dctAt, dat, look, tgName, forgets, retv, gCall, T.able, T.view, List.getElem?_cons_zero, List.getElem?_cons_succ, List.set_cons_zero, List.set_cons_succ, R.bind_ok, R.bindO_ok, List.length_cons, List.length_nil, dats, trees, lsd, fin, ables_map, views_map', ables_nil, views_nil, ables_cons, views_cons, filter_true', atI_c0, atI_c1, atI_c2, atI_nil, sz_0, sz_1, sz_2, sz_3, sz_4, sz_5, sz_6, sz_7, sz_8, sz_9, sz_10, sz_11, sz_12, sz_13, sz_14, sz_15, e2, e3, e4, a1, a2, ne])]
  rfl
end L_k62
set_option Elab.async false
set_option linter.all false
set_option maxRecDepth 100000
set_option autoImplicit false
set_option maxHeartbeats 0
namespace L_k62
open PySem PySem.Spec PyProof.Rows L2 PL
theorem inner_ok (k : Nat) (hk : 80 ≤ k) (l : List Int) (x0 tn a ty wr : T) (p : P) (s t : Ty) (h : Prog p s t) (at_ : Nat) : ∀ (vs : List D) (rest : List T), (∀ v ∈ vs, v ∈ s.vals) →
    ∃ rest', forGo (tgName 7) (inB (Fk k)) vs ⟨[x0, .fz (.obj 0), tn, a, .fz p.d, ty, .fz (und' p).d, .hole, wr, .hole], wT l at_ :: rest⟩ = .next ⟨[x0, .fz (.obj 0), tn, a, .fz p.d, ty, .fz (und' p).d, .hole, wr, .hole], wT l at_ :: rest'⟩
  | [], rest, _ => ⟨rest, rfl⟩
  | v :: vs, rest, hv => by
    obtain ⟨r1, e1⟩ := in_ok k hk l x0 tn a ty wr p s t h at_ rest v (hv v (List.mem_cons_self ..))
    obtain ⟨r2, e2⟩ := inner_ok k hk l x0 tn a ty wr p s t h at_ vs r1 fun v h => hv v (List.mem_cons_of_mem _ h)
    exact ⟨r2, (forGo_cons rfl e1).trans e2⟩
end L_k62
set_option Elab.async false
set_option linter.all false
set_option maxRecDepth 100000
set_option autoImplicit false
set_option maxHeartbeats 0
namespace L_k62
open PySem PySem.Spec PyProof.Rows L2 PL
theorem eq_tyD {p : P} (h : pd p ≤ 50) (s : S) : pNe s (.tr (.fz (tyD (typ p)))) (.tr (.fz (tyD (typ p)))) = .ok (.tr (.fz (.bl false))) s := by
  have he : eqD (tyD (typ p)) (tyD (typ p)) = true := by
    cases typ p with
    | none => rfl
    | some x => obtain ⟨a, b⟩ := x; simp [tyD_s, eqD, eqDs, ty_eq]
  rw [pNe_fz (tyD_ok h 64 (by omega)) (tyD_ok h 64 (by omega)), he]
  rfl
theorem body_ok (k : Nat) (hk : 90 ≤ k) (l : List Int) (x0 tn : T) (at_ : Nat) (rest : List T) :
    ∃ at' rest', body (Fk (k + 1)) ⟨[x0, .fz (.obj 0), tn, .hole, .hole, .hole, .hole, .hole, .hole, .hole], wT l at_ :: rest⟩ = .next ⟨[x0, .fz (.obj 0), .hole, .hole, .hole, .hole, .hole, .hole, .hole, .hole], wT l at' :: rest'⟩ := by
  obtain ⟨a, t1, ha, e0⟩ := lawtype_ok 3 (k + 1) l at_ rest (by omega)
  have e0 : Fk (k + 1) 13 [.obj 0, .int 3] (wT l at_ :: rest) = .ok (.fz a.d) (wT l t1 :: rest) := e0
  have na := n_small ha
  obtain ⟨p0, t2, dr, e1⟩ := lawprog_ok 3 (k + 1) a l t1 rest (by omega) (by omega)
  have e1 : Fk (k + 1) 15 [.obj 0, a.d, .int 3] (wT l t1 :: rest) = .ok (.fz p0.d) (wT l t2 :: rest) := e1
  obtain ⟨u0, hu0⟩ := dr.ty
  have pd0 := dr.d
  have ph0 := dr.h
  have hn0 := typ_n p0 _ _ hu0
  have e2 := next_ok l t2 4 rest (by decide)
  rw [← nx k] at e2
  have hP : ∃ (p : P) (s t : Ty), Prog p s t ∧ bd2 (Fk (k + 1)) ⟨[x0, .fz (.obj 0), tn, .fz a.d, .fz p0.d, .hole, .hole, .hole, .hole, .hole], wT l t2 :: rest⟩ = .next ⟨[x0, .fz (.obj 0), tn, .fz a.d, .fz p.d, .hole, .hole, .hole, .hole, .hole], wT l (t2 + 1) :: rest⟩ := by
    by_cases h : nxt l t2 4 = 0
    · rw [h] at e2
      exact ⟨.und p0, u0, a, ⟨by simp [typ, hu0], by simp only [pd]; omega, by simp only [ph]; omega, by omega⟩, by simp [bd2, P.d, sSeq, sIf, sAsg, sAsgT, sAug, sPar, sFor, sForget, sRet, sRetN, sAppend, sExtend, sNext, sBrk, sCont, sDrop, appv, isLst, gB, bv, gNp, npv, gOp, gUn, gVar, gC, gCB, gFz, fzv, gTru, tru, gAndT, gOrT, gNotT, gAnd, gOr, gNot, gIf, PL.gTup, gLst, gIsi, gIsi2, tyN_non, tyN_bl, tyN_int, tyN_str, tyN_tup, tyN_lst, tyN_tl, gSl, oNone, oSome, intv, aNil, aCons, iRange1, iRange2, rng1, rng2, iOf, itv, bLen, bAbs, bInt, bTuple, bList, lenT, pI, pAdd, pIx4, pIx, pDGet, dctAt, dat, look, tgName, forgets, retv, gCall, T.able, T.view, List.getElem?_cons_zero, List.getElem?_cons_succ, List.set_cons_zero, List.set_cons_succ, R.bind_ok, R.bindO_ok, List.length_cons, List.length_nil, dats, trees, lsd, fin, ables_map, views_map', ables_nil, views_nil, ables_cons, views_cons, filter_true', atI_c0, atI_c1, atI_c2, atI_nil, sz_0, sz_1, sz_2, sz_3, sz_4, sz_5, sz_6, sz_7, sz_8, sz_9, sz_10, sz_11, sz_12, sz_13, sz_14, sz_15, pEq_lit, pNe_lit, pIn_2, pIn_3, pIn_4, pNotIn_3, pNotIn_4, pEq_int, pNe_int, okD_lit, okD_int, okD_non, okD_bl, e2]⟩
    · have hb : (nxt l t2 4 == 0) = false := beq_eq_false_iff_ne.mpr h
      exact ⟨p0, a, u0, ⟨hu0, by omega, by omega, na⟩, by simp [bd2, sSeq, sIf, sAsg, sAsgT, sAug, sPar, sFor, sForget, sRet, sRetN, sAppend, sExtend, sNext, sBrk, sCont, sDrop, appv, isLst, gB, bv, gNp, npv, gOp, gUn, gVar, gC, gCB, gFz, fzv, gTru, tru, gAndT, gOrT, gNotT, gAnd, gOr, gNot, gIf, PL.gTup, gLst, gIsi, gIsi2, tyN_non, tyN_bl, tyN_int, tyN_str, tyN_tup, tyN_lst, tyN_tl, gSl, oNone, oSome, intv, aNil, aCons, iRange1, iRange2, rng1, rng2, iOf, itv, bLen, bAbs, bInt, bTuple, bList, lenT, pI, pAdd, pIx4, pIx, pDGet, dctAt, dat, look, tgName, forgets, retv, gCall, T.able, T.view, List.getElem?_cons_zero, List.getElem?_cons_succ, List.set_cons_zero, List.set_cons_succ, R.bind_ok, R.bindO_ok, List.length_cons, List.length_nil, dats, trees, lsd, fin, ables_map, views_map', ables_nil, views_nil, ables_cons, views_cons, filter_true', atI_c0, atI_c1, atI_c2, atI_nil, sz_0, sz_1, sz_2, sz_3, sz_4, sz_5, sz_6, sz_7, sz_8, sz_9, sz_10, sz_11, sz_12, sz_13, sz_14, sz_15, pEq_lit, pNe_lit, pIn_2, pIn_3, pIn_4, pNotIn_3, pNotIn_4, pEq_int, pNe_int, okD_lit, okD_int, okD_non, okD_bl, e2, h, hb]⟩
  obtain ⟨p, s, t, hp, e3⟩ := hP
  have hd := hp.d
  have hh := hp.h
  have hn := hp.n
  have dd := typ_dep p _ _ hp.ty
  have hu : typ (und' p) = some (t, s) := by rw [und_typ, hp.ty]; rfl
  obtain ⟨u1, u2⟩ := und_pd p
  have e4 := law_types_ok p (k + 1) (wT l (t2 + 1) :: rest) (by omega) (by omega)
  have e5 := type_of_ok p (k + 1) (wT l (t2 + 1) :: rest) (by omega) (by omega)
  have e6 := alike_ty (p := p) (by omega) (k + 1) (by omega) (wT l (t2 + 1) :: rest)
  have e7 := (undone_ok p (k + 1) (wT l (t2 + 1) :: rest) (by omega)).1
  obtain ⟨x1, e8⟩ := is_program_ok (und' p) (k + 1) (wT l (t2 + 1) :: rest) (by omega) (by omega)
  rw [List.cons_append] at e8
  have e9 := plain_ok (und' p) (k + 1) (wT l (t2 + 1) :: (rest ++ x1)) (by omega)
  rw [und_plain] at e9
  have e10 := type_of_ok (und' p) (k + 1) (wT l (t2 + 1) :: (rest ++ x1)) (by omega) (by omega)
  have e11 := alike_ty (p := und' p) (by omega) (k + 1) (by omega) (wT l (t2 + 1) :: (rest ++ x1))
  have e12 := law_types_ok (und' p) (k + 1) (wT l (t2 + 1) :: (rest ++ x1)) (by omega) (by omega)
  have e13 := eq_tyD (p := und' p) (by omega)
  rw [hu, tyD_s] at e10 e11 e12
  rw [hu, tyD_s] at e13
  rw [hp.ty, tyD_s] at e4 e5 e6
  have e14 := lawvals_ok s (k + 1) (wT l (t2 + 1) :: (rest ++ x1)) (by omega) (by omega)
  obtain ⟨r2, e15⟩ := inner_ok (k + 1) (by omega) l x0 tn (.fz a.d) (.fz (.tup [s.d, t.d])) .hole p s t hp (t2 + 1) (PL.cutD s.vals none (some 12)) (rest ++ x1) fun v hv => List.mem_of_mem_drop (List.mem_of_mem_take hv)
  obtain ⟨b, t3, hb, e16⟩ := lawtype_ok 2 (k + 1) l (t2 + 1) r2 (by omega)
  have e16 : Fk (k + 1) 13 [.obj 0, .int 2] (wT l (t2 + 1) :: r2) = .ok (.fz b.d) (wT l t3 :: r2) := e16
  obtain ⟨q, t4, dq, e17⟩ := lawprog_ok 1 (k + 1) b l t3 r2 (by omega) (by omega)
  have e17 : Fk (k + 1) 15 [.obj 0, b.d, .int 1] (wT l t3 :: r2) = .ok (.fz q.d) (wT l t4 :: r2) := e17
  have pdq := dq.d
  have phq := dq.h
  have e18 := type_of_ok (.thn p q) (k + 1) (wT l t4 :: r2) (by simp only [ph]; omega) (by simp only [pd]; omega)
  have e19 := law_types_ok (.thn p q) (k + 1) (wT l t4 :: r2) (by simp only [ph]; omega) (by simp only [pd]; omega)
  have e20 := alike_ty (p := .thn p q) (by simp only [pd]; omega) (k + 1) (by omega) (wT l t4 :: r2)
  have e21 := type_of_ok (.eth (.same a) (.thn p q)) (k + 1) (wT l t4 :: r2) (by simp only [ph]; omega) (by simp only [pd]; omega)
  have e22 := alike_b k (typ (.thn p q)).isNone (wT l t4 :: r2)
  have n1 : ∀ st : S, pIsN st (.tr (.fz (tyD (typ (.thn p q))))) (.tr (.fz .non)) = .ok (.tr (.fz (.bl (typ (.thn p q)).isNone))) st := fun st => by
    cases typ (.thn p q) with
    | none => rfl
    | some x => obtain ⟨c, e⟩ := x; rfl
  have n2 : ∀ st : S, pIsN st (.tr (.fz (tyD (typ (.eth (.same a) (.thn p q)))))) (.tr (.fz .non)) = .ok (.tr (.fz (.bl (typ (.thn p q)).isNone))) st := fun st => by
    have : typ (.eth (.same a) (.thn p q)) = (typ (.thn p q)).map fun x => (.sum a x.1, .sum a x.2) := by
      have e : typ (.eth (.same a) (.thn p q)) = match typ (.same a), typ (.thn p q) with
        | some (a, b), some (c, e) => some (.sum a c, .sum b e)
        | _, _ => none := rfl
      rw [e]
      have e2 : typ (.same a) = some (a, a) := rfl
      rw [e2]
      cases typ (.thn p q) <;> rfl
    rw [this]
    cases typ (.thn p q) with
    | none => rfl
    | some x => obtain ⟨c, e⟩ := x; rfl
  refine ⟨t4, r2, ?_⟩
  unfold body
  rw [sSeq_next (s1 := ⟨[x0, .fz (.obj 0), tn, .fz a.d, .hole, .hole, .hole, .hole, .hole, .hole], wT l t1 :: rest⟩) (by simp [bd0, sSeq, sIf, sAsg, sAsgT, sAug, sPar, sFor, sForget, sRet, sRetN, sAppend, sExtend, sNext, sBrk, sCont, sDrop, appv, isLst, gB, bv, gNp, npv, gOp, gUn, gVar, gC, gCB, gFz, fzv, gTru, tru, gAndT, gOrT, gNotT, gAnd, gOr, gNot, gIf, PL.gTup, gLst, gIsi, gIsi2, tyN_non, tyN_bl, tyN_int, tyN_str, tyN_tup, tyN_lst, tyN_tl, gSl, oNone, oSome, intv, aNil, aCons, iRange1, iRange2, rng1, rng2, iOf, itv, bLen, bAbs, bInt, bTuple, bList, lenT, pI, pAdd, pIx4, pIx, pDGet, dctAt, dat, look, tgName, forgets, retv, gCall, T.able, T.view, List.getElem?_cons_zero, List.getElem?_cons_succ, List.set_cons_zero, List.set_cons_succ, R.bind_ok, R.bindO_ok, List.length_cons, List.length_nil, dats, trees, lsd, fin, ables_map, views_map', ables_nil, views_nil, ables_cons, views_cons, filter_true', atI_c0, atI_c1, atI_c2, atI_nil, sz_0, sz_1, sz_2, sz_3, sz_4, sz_5, sz_6, sz_7, sz_8, sz_9, sz_10, sz_11, sz_12, sz_13, sz_14, sz_15, e0])]
  rw [sSeq_next (s1 := ⟨[x0, .fz (.obj 0), tn, .fz a.d, .fz p0.d, .hole, .hole, .hole, .hole, .hole], wT l t2 :: rest⟩) (by simp [bd1, sSeq, sIf, sAsg, sAsgT, sAug, sPar, sFor, sForget, sRet, sRetN, sAppend, sExtend, sNext, sBrk, sCont, sDrop, appv, isLst, gB, bv, gNp, npv, gOp, gUn, gVar, gC, gCB, gFz, fzv, gTru, tru, gAndT, gOrT, gNotT, gAnd, gOr, gNot, gIf, PL.gTup, gLst, gIsi, gIsi2, tyN_non, tyN_bl, tyN_int, tyN_str, tyN_tup, tyN_lst, tyN_tl, gSl, oNone, oSome, intv, aNil, aCons, iRange1, iRange2, rng1, rng2, iOf, itv, bLen, bAbs, bInt, bTuple, bList, lenT, pI, pAdd, pIx4, pIx, pDGet, dctAt, dat, look, tgName, forgets, retv, gCall, T.able, T.view, List.getElem?_cons_zero, List.getElem?_cons_succ, List.set_cons_zero, List.set_cons_succ, R.bind_ok, R.bindO_ok, List.length_cons, List.length_nil, dats, trees, lsd, fin, ables_map, views_map', ables_nil, views_nil, ables_cons, views_cons, filter_true', atI_c0, atI_c1, atI_c2, atI_nil, sz_0, sz_1, sz_2, sz_3, sz_4, sz_5, sz_6, sz_7, sz_8, sz_9, sz_10, sz_11, sz_12, sz_13, sz_14, sz_15, e1])]
  rw [sSeq_next e3]
  rw [sSeq_next (s1 := ⟨[x0, .fz (.obj 0), tn, .fz a.d, .fz p.d, .fz (.tup [s.d, t.d]), .hole, .hole, .hole, .hole], wT l (t2 + 1) :: rest⟩) (by simp [bd3, sSeq, sIf, sAsg, sAsgT, sAug, sPar, sFor, sForget, sRet, sRetN, sAppend, sExtend, sNext, sBrk, sCont, sDrop, appv, isLst, gB, bv, gNp, npv, gOp, gUn, gVar, gC, gCB, gFz, fzv, gTru, tru, gAndT, gOrT, gNotT, gAnd, gOr, gNot, gIf, PL.gTup, gLst, gIsi, gIsi2, tyN_non, tyN_bl, tyN_int, tyN_str, tyN_tup, tyN_lst, tyN_tl, gSl, oNone, oSome, intv, aNil, aCons, iRange1, iRange2, rng1, rng2, iOf, itv, bLen, bAbs, bInt, bTuple, bList, lenT, pI, pAdd, pIx4, pIx, pDGet, dctAt, dat, look, tgName, forgets, retv, gCall, T.able, T.view, List.getElem?_cons_zero, List.getElem?_cons_succ, List.set_cons_zero, List.set_cons_succ, R.bind_ok, R.bindO_ok, List.length_cons, List.length_nil, dats, trees, lsd, fin, ables_map, views_map', ables_nil, views_nil, ables_cons, views_cons, filter_true', atI_c0, atI_c1, atI_c2, atI_nil, sz_0, sz_1, sz_2, sz_3, sz_4, sz_5, sz_6, sz_7, sz_8, sz_9, sz_10, sz_11, sz_12, sz_13, sz_14, sz_15, e4])]
  rw [sSeq_next (s1 := ⟨[x0, .fz (.obj 0), tn, .fz a.d, .fz p.d, .fz (.tup [s.d, t.d]), .hole, .hole, .hole, .hole], wT l (t2 + 1) :: rest⟩) (by simp [bd4, sSeq, sIf, sAsg, sAsgT, sAug, sPar, sFor, sForget, sRet, sRetN, sAppend, sExtend, sNext, sBrk, sCont, sDrop, appv, isLst, gB, bv, gNp, npv, gOp, gUn, gVar, gC, gCB, gFz, fzv, gTru, tru, gAndT, gOrT, gNotT, gAnd, gOr, gNot, gIf, PL.gTup, gLst, gIsi, gIsi2, tyN_non, tyN_bl, tyN_int, tyN_str, tyN_tup, tyN_lst, tyN_tl, gSl, oNone, oSome, intv, aNil, aCons, iRange1, iRange2, rng1, rng2, iOf, itv, bLen, bAbs, bInt, bTuple, bList, lenT, pI, pAdd, pIx4, pIx, pDGet, dctAt, dat, look, tgName, forgets, retv, gCall, T.able, T.view, List.getElem?_cons_zero, List.getElem?_cons_succ, List.set_cons_zero, List.set_cons_succ, R.bind_ok, R.bindO_ok, List.length_cons, List.length_nil, dats, trees, lsd, fin, ables_map, views_map', ables_nil, views_nil, ables_cons, views_cons, filter_true', atI_c0, atI_c1, atI_c2, atI_nil, sz_0, sz_1, sz_2, sz_3, sz_4, sz_5, sz_6, sz_7, sz_8, sz_9, sz_10, sz_11, sz_12, sz_13, sz_14, sz_15, e5, e6])]
  rw [sSeq_next (s1 := ⟨[x0, .fz (.obj 0), tn, .fz a.d, .fz p.d, .fz (.tup [s.d, t.d]), .fz (und' p).d, .hole, .hole, .hole], wT l (t2 + 1) :: rest⟩) (by simp [bd5, sSeq, sIf, sAsg, sAsgT, sAug, sPar, sFor, sForget, sRet, sRetN, sAppend, sExtend, sNext, sBrk, sCont, sDrop, appv, isLst, gB, bv, gNp, npv, gOp, gUn, gVar, gC, gCB, gFz, fzv, gTru, tru, gAndT, gOrT, gNotT, gAnd, gOr, gNot, gIf, PL.gTup, gLst, gIsi, gIsi2, tyN_non, tyN_bl, tyN_int, tyN_str, tyN_tup, tyN_lst, tyN_tl, gSl, oNone, oSome, intv, aNil, aCons, iRange1, iRange2, rng1, rng2, iOf, itv, bLen, bAbs, bInt, bTuple, bList, lenT, pI, pAdd, pIx4, pIx, pDGet, dctAt, dat, look, tgName, forgets, retv, gCall, T.able, T.view, List.getElem?_cons_zero, List.getElem?_cons_succ, List.set_cons_zero, List.set_cons_succ, R.bind_ok, R.bindO_ok, List.length_cons, List.length_nil, dats, trees, lsd, fin, ables_map, views_map', ables_nil, views_nil, ables_cons, views_cons, filter_true', atI_c0, atI_c1, atI_c2, atI_nil, sz_0, sz_1, sz_2, sz_3, sz_4, sz_5, sz_6, sz_7, sz_8, sz_9, sz_10, sz_11, sz_12, sz_13, sz_14, sz_15, e7])]
  rw [sSeq_next (s1 := ⟨[x0, .fz (.obj 0), tn, .fz a.d, .fz p.d, .fz (.tup [s.d, t.d]), .fz (und' p).d, .hole, .hole, .hole], wT l (t2 + 1) :: (rest ++ x1)⟩) (by simp [bd6, sSeq, sIf, sAsg, sAsgT, sAug, sPar, sFor, sForget, sRet, sRetN, sAppend, sExtend, sNext, sBrk, sCont, sDrop, appv, isLst, gB, bv, gNp, npv, gOp, gUn, gVar, gC, gCB, gFz, fzv, gTru, tru, gAndT, gOrT, gNotT, gAnd, gOr, gNot, gIf, PL.gTup, gLst, gIsi, gIsi2, tyN_non, tyN_bl, tyN_int, tyN_str, tyN_tup, tyN_lst, tyN_tl, gSl, oNone, oSome, intv, aNil, aCons, iRange1, iRange2, rng1, rng2, iOf, itv, bLen, bAbs, bInt, bTuple, bList, lenT, pI, pAdd, pIx4, pIx, pDGet, dctAt, dat, look, tgName, forgets, retv, gCall, T.able, T.view, List.getElem?_cons_zero, List.getElem?_cons_succ, List.set_cons_zero, List.set_cons_succ, R.bind_ok, R.bindO_ok, List.length_cons, List.length_nil, dats, trees, lsd, fin, ables_map, views_map', ables_nil, views_nil, ables_cons, views_cons, filter_true', atI_c0, atI_c1, atI_c2, atI_nil, sz_0, sz_1, sz_2, sz_3, sz_4, sz_5, sz_6, sz_7, sz_8, sz_9, sz_10, sz_11, sz_12, sz_13, sz_14, sz_15, gRev, revv, e8, e9, e10, e11, e12, e13])]
  rw [sSeq_next (s1 := ⟨[x0, .fz (.obj 0), tn, .fz a.d, .fz p.d, .fz (.tup [s.d, t.d]), .fz (und' p).d, .hole, .hole, .hole], wT l (t2 + 1) :: r2⟩) (by simp [bd7, sSeq, sIf, sAsg, sAsgT, sAug, sPar, sFor, sForget, sRet, sRetN, sAppend, sExtend, sNext, sBrk, sCont, sDrop, appv, isLst, gB, bv, gNp, npv, gOp, gUn, gVar, gC, gCB, gFz, fzv, gTru, tru, gAndT, gOrT, gNotT, gAnd, gOr, gNot, gIf, PL.gTup, gLst, gIsi, gIsi2, tyN_non, tyN_bl, tyN_int, tyN_str, tyN_tup, tyN_lst, tyN_tl, gSl, oNone, oSome, intv, aNil, aCons, iRange1, iRange2, rng1, rng2, iOf, itv, bLen, bAbs, bInt, bTuple, bList, lenT, pI, pAdd, pIx4, pIx, pDGet, dctAt, dat, look, tgName, forgets, retv, gCall, T.able, T.view, List.getElem?_cons_zero, List.getElem?_cons_succ, List.set_cons_zero, List.set_cons_succ, R.bind_ok, R.bindO_ok, List.length_cons, List.length_nil, dats, trees, lsd, fin, ables_map, views_map', ables_nil, views_nil, ables_cons, views_cons, filter_true', atI_c0, atI_c1, atI_c2, atI_nil, sz_0, sz_1, sz_2, sz_3, sz_4, sz_5, sz_6, sz_7, sz_8, sz_9, sz_10, sz_11, sz_12, sz_13, sz_14, sz_15, e14, pSl, e15])]
  rw [sSeq_next (s1 := ⟨[x0, .fz (.obj 0), tn, .fz a.d, .fz p.d, .fz (.tup [s.d, t.d]), .fz (und' p).d, .hole, .fz (P.thn p q).d, .hole], wT l t4 :: r2⟩) (by simp [bd8, sSeq, sIf, sAsg, sAsgT, sAug, sPar, sFor, sForget, sRet, sRetN, sAppend, sExtend, sNext, sBrk, sCont, sDrop, appv, isLst, gB, bv, gNp, npv, gOp, gUn, gVar, gC, gCB, gFz, fzv, gTru, tru, gAndT, gOrT, gNotT, gAnd, gOr, gNot, gIf, PL.gTup, gLst, gIsi, gIsi2, tyN_non, tyN_bl, tyN_int, tyN_str, tyN_tup, tyN_lst, tyN_tl, gSl, oNone, oSome, intv, aNil, aCons, iRange1, iRange2, rng1, rng2, iOf, itv, bLen, bAbs, bInt, bTuple, bList, lenT, pI, pAdd, pIx4, pIx, pDGet, dctAt, dat, look, tgName, forgets, retv, gCall, T.able, T.view, List.getElem?_cons_zero, List.getElem?_cons_succ, List.set_cons_zero, List.set_cons_succ, R.bind_ok, R.bindO_ok, List.length_cons, List.length_nil, dats, trees, lsd, fin, ables_map, views_map', ables_nil, views_nil, ables_cons, views_cons, filter_true', atI_c0, atI_c1, atI_c2, atI_nil, sz_0, sz_1, sz_2, sz_3, sz_4, sz_5, sz_6, sz_7, sz_8, sz_9, sz_10, sz_11, sz_12, sz_13, sz_14, sz_15, e16, e17, P.d])]
  rw [sSeq_next (s1 := ⟨[x0, .fz (.obj 0), tn, .fz a.d, .fz p.d, .fz (.tup [s.d, t.d]), .fz (und' p).d, .hole, .fz (P.thn p q).d, .hole], wT l t4 :: r2⟩) (by
    have w1 : (P.eth (.same a) (.thn p q)).d = .tup [.str "either", .tup [.str "same", a.d], (P.thn p q).d] := rfl
    rw [w1] at e21
    simp [bd9, sSeq, sIf, sAsg, sAsgT, sAug, sPar, sFor, sForget, sRet, sRetN, sAppend, sExtend, sNext, sBrk, sCont, sDrop, appv, isLst, gB, bv, gNp, npv, gOp, gUn, gVar, gC, gCB, gFz, fzv, gTru, tru, gAndT, gOrT, gNotT, gAnd, gOr, gNot, gIf, PL.gTup, gLst, gIsi, gIsi2, tyN_non, tyN_bl, tyN_int, tyN_str, tyN_tup, tyN_lst, tyN_tl, gSl, oNone, oSome, intv, aNil, aCons, iRange1, iRange2, rng1, rng2, iOf, itv, bLen, bAbs, bInt, bTuple, bList, lenT, pI, pAdd, pIx4, pIx, pDGet, dctAt, dat, look, tgName, forgets, retv, gCall, T.able, T.view, List.getElem?_cons_zero, List.getElem?_cons_succ, List.set_cons_zero, List.set_cons_succ, R.bind_ok, R.bindO_ok, List.length_cons, List.length_nil, dats, trees, lsd, fin, ables_map, views_map', ables_nil, views_nil, ables_cons, views_cons, filter_true', atI_c0, atI_c1, atI_c2, atI_nil, sz_0, sz_1, sz_2, sz_3, sz_4, sz_5, sz_6, sz_7, sz_8, sz_9, sz_10, sz_11, sz_12, sz_13, sz_14, sz_15, e18, e19, e20, e21, n1, n2, e22])]
  rfl
end L_k62
set_option Elab.async false
set_option linter.all false
set_option maxRecDepth 100000
set_option autoImplicit false
set_option maxHeartbeats 0
namespace L_k62
open PySem PySem.Spec PyProof.Rows L2 PL
theorem sm5 : small62 5 = true := by decide
theorem law_pure (l : List Int) (hl : l.length ≤ 63) : ∃ ob, Fk 100 20 [.fl (l.map .int)] [] = .ok (.fz (.bl true)) ob := by
  obtain ⟨dr, ed⟩ := draws_ok l 700 [] hl (by decide)
  have ed : Fk 99 9 [.fl (l.map .int), .int 700] [] = .ok (.lst (dr.map fun i => .fz (.int i))) [] := ed
  have hm : (dr.map fun i => T.fz (.int i)) = (dr.map D.int).map T.fz := by rw [List.map_map]; rfl
  have H := forGo_ix (tg := tgName 2) (body := body (Fk 99)) (ds := rangeD 0 5) (fun n s => ∃ (at' : Nat) (rest : List T), s = ⟨[.fz (.fl (l.map .int)), .fz (.obj 0), .hole, .hole, .hole, .hole, .hole, .hole, .hole, .hole], wT dr at' :: rest⟩) (fun n d s hd h => by
    obtain ⟨a, rest, rfl⟩ := h
    obtain ⟨a', rest', e⟩ := body_ok 98 (by decide) dr (.fz (.fl (l.map .int))) (.fz d) a rest
    exact ⟨_, _, rfl, e, a', rest', rfl⟩) ⟨[.fz (.fl (l.map .int)), .fz (.obj 0), .hole, .hole, .hole, .hole, .hole, .hole, .hole, .hole], [wT dr 0]⟩ ⟨0, [], rfl⟩
  obtain ⟨s', e, a', rest, rfl⟩ := H
  refine ⟨wT dr a' :: rest, ?_⟩
  rw [hm] at ed
  show Fk (99 + 1) 20 [.fl (l.map .int)] [] = _
  rw [Fk_law, fnD_fin, m_law_eq]
  simp only [List.map_cons, List.map_nil, List.replicate, List.cons_append, List.nil_append]
  rw [sSeq_next (s1 := ⟨[.fz (.fl (l.map .int)), .fz (.obj 0), .hole, .hole, .hole, .hole, .hole, .hole, .hole, .hole], [wT dr 0]⟩) (by
    unfold PL.wT
    clear e hm
    generalize dr.map D.int = ds at ed ⊢
    simp [gDictOb, gaOf, dictv, sSeq, sIf, sAsg, sAsgT, sAug, sPar, sFor, sForget, sRet, sRetN, sAppend, sExtend, sNext, sBrk, sCont, sDrop, appv, isLst, gB, bv, gNp, npv, gOp, gUn, gVar, gC, gCB, gFz, fzv, gTru, tru, gAndT, gOrT, gNotT, gAnd, gOr, gNot, gIf, PL.gTup, gLst, gIsi, gIsi2, tyN_non, tyN_bl, tyN_int, tyN_str, tyN_tup, tyN_lst, tyN_tl, gSl, oNone, oSome, intv, aNil, aCons, iRange1, iRange2, rng1, rng2, iOf, itv, bLen, bAbs, bInt, bTuple, bList, lenT, pI, pAdd, pIx4, pIx, pDGet, dctAt, dat, look, tgName, forgets, retv, gCall, T.able, T.view, List.getElem?_cons_zero, List.getElem?_cons_succ, List.set_cons_zero, List.set_cons_succ, R.bind_ok, R.bindO_ok, List.length_cons, List.length_nil, dats, trees, lsd, fin, ables_map, views_map', ables_nil, views_nil, ables_cons, views_cons, filter_true', atI_c0, atI_c1, atI_c2, atI_nil, sz_0, sz_1, sz_2, sz_3, sz_4, sz_5, sz_6, sz_7, sz_8, sz_9, sz_10, sz_11, sz_12, sz_13, sz_14, sz_15, ed])]
  rw [sSeq_next (s1 := ⟨[.fz (.fl (l.map .int)), .fz (.obj 0), .hole, .hole, .hole, .hole, .hole, .hole, .hole, .hole], wT dr a' :: rest⟩) (by simp [sSeq, sIf, sAsg, sAsgT, sAug, sPar, sFor, sForget, sRet, sRetN, sAppend, sExtend, sNext, sBrk, sCont, sDrop, appv, isLst, gB, bv, gNp, npv, gOp, gUn, gVar, gC, gCB, gFz, fzv, gTru, tru, gAndT, gOrT, gNotT, gAnd, gOr, gNot, gIf, PL.gTup, gLst, gIsi, gIsi2, tyN_non, tyN_bl, tyN_int, tyN_str, tyN_tup, tyN_lst, tyN_tl, gSl, oNone, oSome, intv, aNil, aCons, iRange1, iRange2, rng1, rng2, iOf, itv, bLen, bAbs, bInt, bTuple, bList, lenT, pI, pAdd, pIx4, pIx, pDGet, dctAt, dat, look, tgName, forgets, retv, gCall, T.able, T.view, List.getElem?_cons_zero, List.getElem?_cons_succ, List.set_cons_zero, List.set_cons_succ, R.bind_ok, R.bindO_ok, List.length_cons, List.length_nil, dats, trees, lsd, fin, ables_map, views_map', ables_nil, views_nil, ables_cons, views_cons, filter_true', atI_c0, atI_c1, atI_c2, atI_nil, sz_0, sz_1, sz_2, sz_3, sz_4, sz_5, sz_6, sz_7, sz_8, sz_9, sz_10, sz_11, sz_12, sz_13, sz_14, sz_15, sm5, e])]
  rfl
end L_k62
set_option Elab.async false
set_option linter.all false
set_option maxRecDepth 100000
set_option maxHeartbeats 0
set_option autoImplicit false
namespace L_k62
open PySem PySem.Spec PyProof.Rows L2 PL
abbrev t_R : PySem.W.OpenRow := PySem.W.OpenLaw.row PySem.Challenge.rw_backlook_k62_programs_that_are_undone
abbrev t_hk : PySem.W.Hook := He.hookD 4 (faOf DS free) (DS.map FD.dd)
def t_ob (s : PySem.W.SharedT) : He.AlD := He.obsDG 4 (faOf DS free) (DS.map FD.dd) (HandSHeadRun.getT s)
theorem t_ob_eq (s : PySem.W.SharedT) : t_ob s = t_hk.obs s.abs := He.obsDG_eq (HandSHeadRun.getT_eq s)
def t_loose : List Str := ["__name__", "sum_of", "pair_of", "plain_type", "type_of", "turned_sum", "done", "back", "undone", "without_undo", "_law_draws", "_law_next", "_law_pick", "_law_alike", "_law_type", "_law_values", "_law_program", "_law_types", "_law_done", "_law_is_plain", "_law_is_program"]
theorem t_run (w : World) : HandSHeadRun.RunEq t_R (PySem.W.view t_R.prog [22]) t_hk t_ob 1500 t_loose w := by
  intro os
  kernel_rfl
end L_k62
open PySem PySem.W PySem.Calls PyProof.Rows
theorem PySem.Challenge.cw_backlook_k62_programs_that_are_undone_holds : PySem.Challenge.rw_backlook_k62_programs_that_are_undone.Holds := by
  w_on; o_law
  refine HandSHeadRun.head_any (r := OpenLaw.row PySem.Challenge.rw_backlook_k62_programs_that_are_undone) (q := view (OpenLaw.row PySem.Challenge.rw_backlook_k62_programs_that_are_undone).prog [22]) (H := L_k62.t_hk) (ob := L_k62.t_ob) (M := 1500) (loose := L_k62.t_loose) (d := HandSHeadRun.topDef (OpenLaw.row PySem.Challenge.rw_backlook_k62_programs_that_are_undone).prog 22) (kwd := []) L_k62.t_ob_eq
    (by kernel_rfl) (fun s => by kernel_rfl) L_k62.t_run (by kernel_rfl) (by kernel_rfl) (by kernel_rfl) (by rfl) (by first | assumption | decide +kernel) (by decide +kernel) ⟨rfl, rfl, rfl, rfl, rfl, by decide +kernel⟩ ?hw ?hc
  case hw => w_witness2
  case hc =>
    refine L2.walk_ofE (l := PySem.Challenge.rw_backlook_k62_programs_that_are_undone) (n := 63) (k := 100) (x := "script") (CX := L2.CX0) rfl (by decide) (by kernel_rfl) ⟨rfl, by decide, by decide⟩ ?F (fun _ _ _ _ z => z)
    intro w mg fa h Y G hmg0
    have hmg : mg ("law" : PySem.Str) = some (.ref fa) := by
      have e : (HandSHeadRun.topDef (OpenLaw.row PySem.Challenge.rw_backlook_k62_programs_that_are_undone).prog 22).name = ("law" : PySem.Str) := by kernel_rfl
      rw [← e]
      exact hmg0
    exact PL.law_facts (P := (PySem.Challenge.rw_backlook_k62_programs_that_are_undone).prog) (w := w) L_k62.txt (n := 63) (il := 20) (dl := ⟨"law", L_k62.p_law, L_k62.n_law, L_k62.s_law, 9⟩) (x := "script") rfl rfl Y G hmg L_k62.law_pure
