import PyProof.Rows.All
import Wide.All
import OpenK.AllK
import Wide.FinOn
import HandS.ForMost
import HandS.ForExc
import HandS.Wide
import HandS.Walk
import HandS.Zip
import HandS.TupAny
import HandS.IsInst
import HandS.ExcInit
import HandS.Codes
import HandS.Defaults
import HandS.More
import KE.GoesMore
import PySem.Challenge.RW_clackrow_k46_numbers_of_the_most
set_option Elab.async false
set_option linter.all false
set_option maxRecDepth 100000
set_option maxHeartbeats 4000000
set_option autoImplicit false
namespace DL
open PySem L2
/-- data that never changes: a value, a tuple, a list that stands still -/
inductive D where
  | v (x : V)
  | t (ds : List D)
  | s (ds : List D)
/-- a list that stands still -/
def FrL (K : PySem.W.Frag) (H : Hp) (a : Addr) (xs : List V) : Prop := (∃ o, H a = some (.frz o (.lst xs))) ∨
  ∃ (o : Obj) (its : Array Value) (n : Nat), K.lookup a = some o ∧ o.cls = .type "list" ∧ o.dict = none ∧ o.data = .seq its n ∧ its.size ≤ sizeLine ∧ Vals xs its.toList
theorem FrL.sq {K : PySem.W.Frag} {H : Hp} {a : Addr} {xs : List V} (h : FrL K H a xs) : SqL K H a xs := by
  rcases h with ⟨o, h⟩ | h
  · exact .inl (.inr ⟨o, h⟩)
  · exact .inr h
mutual
inductive Dat (K : PySem.W.Frag) (H : Hp) : D → V → Prop
  | v {x : V} : Dat K H (.v x) x
  | t {a : Addr} {vs : List V} {ds : List D} : SqT K H a vs → DatL K H ds vs → Dat K H (.t ds) (.ref a)
  | s {a : Addr} {vs : List V} {ds : List D} : FrL K H a vs → DatL K H ds vs → Dat K H (.s ds) (.ref a)
inductive DatL (K : PySem.W.Frag) (H : Hp) : List D → List V → Prop
  | nil : DatL K H [] []
  | cons {d : D} {x : V} {ds : List D} {xs : List V} : Dat K H d x → DatL K H ds xs → DatL K H (d :: ds) (x :: xs)
end
/-- what is kept for ever -/
structure TK (H H' : Hp) : Prop where
  tup : ∀ a xs, H a = some (.tup xs) → H' a = some (.tup xs)
  frz : ∀ a o u, H a = some (.frz o u) → H' a = some (.frz o u)
theorem TK.refl (H : Hp) : TK H H := ⟨fun _ _ h => h, fun _ _ _ h => h⟩
theorem TK.trans {A B C : Hp} (x : TK A B) (y : TK B C) : TK A C := ⟨fun a xs h => y.tup a xs (x.tup a xs h), fun a o u h => y.frz a o u (x.frz a o u h)⟩
theorem TK.of {H H' : Hp} (s : Same H H') : TK H H' := ⟨fun a xs h => s a _ h, fun a o u h => s a _ h⟩
theorem TK.sq {K : PySem.W.Frag} {H H' : Hp} {a : Addr} {xs : List V} (k : TK H H') (h : SqT K H a xs) : SqT K H' a xs := by
  rcases h with (h | ⟨o, h⟩) | h
  · exact .inl (.inl (k.tup _ _ h))
  · exact .inl (.inr ⟨o, k.frz _ _ _ h⟩)
  · exact .inr h
theorem TK.fr {K : PySem.W.Frag} {H H' : Hp} {a : Addr} {xs : List V} (k : TK H H') (h : FrL K H a xs) : FrL K H' a xs := by
  rcases h with ⟨o, h⟩ | h
  · exact .inl ⟨o, k.frz _ _ _ h⟩
  · exact .inr h
mutual
theorem Dat.mono {K : PySem.W.Frag} {H H' : Hp} (k : TK H H') : ∀ {d : D} {x : V}, Dat K H d x → Dat K H' d x
  | _, _, .v => .v
  | _, _, .t h l => .t (k.sq h) (DatL.mono k l)
  | _, _, .s h l => .s (k.fr h) (DatL.mono k l)
theorem DatL.mono {K : PySem.W.Frag} {H H' : Hp} (k : TK H H') : ∀ {ds : List D} {xs : List V}, DatL K H ds xs → DatL K H' ds xs
  | _, _, .nil => .nil
  | _, _, .cons h l => .cons (Dat.mono k h) (DatL.mono k l)
end
section
variable {K : PySem.W.Frag} {H H' : Hp}
theorem DatL.length : ∀ {ds : List D} {xs : List V}, DatL K H ds xs → ds.length = xs.length
  | _, _, .nil => rfl
  | _, _, .cons _ l => by simp [DatL.length l]
theorem DatL.append : ∀ {ds es : List D} {xs ys : List V}, DatL K H ds xs → DatL K H es ys → DatL K H (ds ++ es) (xs ++ ys)
  | _, _, _, _, .nil, b => b
  | _, _, _, _, .cons h l, b => .cons h (DatL.append l b)
theorem DatL.get : ∀ {ds : List D} {xs : List V} {i : Nat} {d : D}, DatL K H ds xs → ds[i]? = some d → ∃ x, xs[i]? = some x ∧ Dat K H d x
  | _, _, _, _, .nil, e => by simp at e
  | _, _, 0, _, .cons h l, e => by simp at e; subst e; exact ⟨_, rfl, h⟩
  | _, _, i + 1, d, .cons h l, e => by
    obtain ⟨x, h1, h2⟩ := DatL.get (i := i) (d := d) l (by simpa using e)
    exact ⟨x, by simpa using h1, h2⟩
theorem DatL.got : ∀ {ds : List D} {xs : List V} {i : Nat} {x : V}, DatL K H ds xs → xs[i]? = some x → ∃ d, ds[i]? = some d ∧ Dat K H d x
  | _, _, _, _, .nil, e => by simp at e
  | _, _, 0, _, .cons h l, e => by simp at e; subst e; exact ⟨_, rfl, h⟩
  | _, _, i + 1, d, .cons h l, e => by
    obtain ⟨x, h1, h2⟩ := DatL.got (i := i) (x := d) l (by simpa using e)
    exact ⟨x, by simpa using h1, h2⟩
theorem DatL.take : ∀ {ds : List D} {xs : List V} (n : Nat), DatL K H ds xs → DatL K H (ds.take n) (xs.take n)
  | _, _, 0, _ => by simpa using DatL.nil
  | _, _, _ + 1, .nil => by simpa using DatL.nil
  | _, _, n + 1, .cons h l => .cons h (DatL.take n l)
theorem DatL.drop : ∀ {ds : List D} {xs : List V} (n : Nat), DatL K H ds xs → DatL K H (ds.drop n) (xs.drop n)
  | _, _, 0, r => r
  | _, _, _ + 1, .nil => .nil
  | _, _, n + 1, .cons _ l => DatL.drop n l
theorem DatL.set {d : D} {x : V} (h : Dat K H d x) : ∀ {ds : List D} {xs : List V} (i : Nat), DatL K H ds xs → DatL K H (ds.set i d) (xs.set i x)
  | _, _, _, .nil => .nil
  | _, _, 0, .cons _ l => .cons h l
  | _, _, i + 1, .cons g l => .cons g (DatL.set h i l)
theorem DatL.split : ∀ {ds es : List D} {xs : List V}, DatL K H (ds ++ es) xs → ∃ ys zs, xs = ys ++ zs ∧ DatL K H ds ys ∧ DatL K H es zs
  | [], es, xs, l => ⟨[], xs, rfl, .nil, l⟩
  | d :: ds, es, _, .cons h l => by
    obtain ⟨ys, zs, e, a, b⟩ := DatL.split (ds := ds) l
    exact ⟨_ :: ys, zs, by rw [e]; rfl, .cons h a, b⟩
theorem DatL.ints : ∀ {ns : List Int}, DatL K H (ns.map fun n => D.v (.int n)) (ns.map V.int)
  | [] => .nil
  | n :: ns => .cons .v DatL.ints
theorem DatL.ints_inv : ∀ {ns : List Int} {xs : List V}, DatL K H (ns.map fun n => D.v (.int n)) xs → xs = ns.map V.int
  | [], _, .nil => rfl
  | n :: ns, _, .cons h l => by cases h; rw [DatL.ints_inv l]; rfl
theorem DatL.bls_inv : ∀ {bs : List Bool} {xs : List V}, DatL K H (bs.map fun n => D.v (.bl n)) xs → xs = bs.map V.bl
  | [], _, .nil => rfl
  | n :: ns, _, .cons h l => by cases h; rw [DatL.bls_inv l]; rfl
theorem Dat.vv {x y : V} (h : Dat K H (.v x) y) : y = x := by cases h; rfl
theorem Dat.tt {ds : List D} {y : V} (h : Dat K H (.t ds) y) : ∃ a vs, y = .ref a ∧ SqT K H a vs ∧ DatL K H ds vs := by
  cases h with
  | t a b => exact ⟨_, _, rfl, a, b⟩
theorem Dat.ss {ds : List D} {y : V} (h : Dat K H (.s ds) y) : ∃ a vs, y = .ref a ∧ FrL K H a vs ∧ DatL K H ds vs := by
  cases h with
  | s a b => exact ⟨_, _, rfl, a, b⟩
end
/-- what is ours: lists, instances -/
inductive Th where
  | l (ds : List D)
  | i (C : Addr) (fs : List (Str × D))
abbrev Env := List (Option D)
abbrev Sto := List (V × Th)
def soft : HO → Prop
  | .tup _ => False
  | .frz _ _ => False
  | _ => True
def Th.has (K : PySem.W.Frag) (H : Hp) (x : V) (fp : List Addr) : Th → Prop
  | .l ds => ∃ a vs, x = .ref a ∧ fp = [a] ∧ H a = some (.lst vs) ∧ DatL K H ds vs
  | .i C fs => ∃ a dx gs, x = .ref a ∧ fp = [a, dx] ∧ H a = some (.ins C dx gs) ∧ H dx = some (.own a) ∧ gs.map Prod.fst = fs.map Prod.fst ∧ DatL K H (fs.map Prod.snd) (gs.map Prod.snd)
inductive StoOk (K : PySem.W.Frag) (H : Hp) : Sto → List (List Addr) → Prop
  | nil : StoOk K H [] []
  | cons {x : V} {T : Th} {fp : List Addr} {S : Sto} {fps : List (List Addr)} : T.has K H x fp → StoOk K H S fps → StoOk K H ((x, T) :: S) (fp :: fps)
section
variable {K : PySem.W.Frag} {H H' : Hp}
theorem Th.mono {T : Th} {x : V} {fp : List Addr} (h : T.has K H x fp) (k : TK H H') (s : ∀ a ∈ fp, H' a = H a) : T.has K H' x fp := by
  cases T with
  | l ds =>
    obtain ⟨a, vs, e, rfl, h1, h2⟩ := h
    exact ⟨a, vs, e, rfl, by rw [s a (by simp)]; exact h1, h2.mono k⟩
  | i C fs =>
    obtain ⟨a, dx, gs, e, rfl, h1, h2, h3, h4⟩ := h
    exact ⟨a, dx, gs, e, rfl, by rw [s a (by simp)]; exact h1, by rw [s dx (by simp)]; exact h2, h3, h4.mono k⟩
theorem Th.live {T : Th} {x : V} {fp : List Addr} (h : T.has K H x fp) : ∀ a ∈ fp, ∃ o, H a = some o ∧ soft o := by
  cases T with
  | l ds =>
    obtain ⟨a, vs, e, rfl, h1, h2⟩ := h
    intro b hb
    simp at hb; subst hb
    exact ⟨_, h1, trivial⟩
  | i C fs =>
    obtain ⟨a, dx, gs, e, rfl, h1, h2, h3, h4⟩ := h
    intro b hb
    simp at hb
    rcases hb with rfl | rfl
    · exact ⟨_, h1, trivial⟩
    · exact ⟨_, h2, trivial⟩
theorem StoOk.mono : ∀ {S : Sto} {fps : List (List Addr)}, StoOk K H S fps → TK H H' → (∀ a ∈ fps.flatten, H' a = H a) → StoOk K H' S fps
  | _, _, .nil, _, _ => .nil
  | _, _, .cons h t, k, s => .cons (Th.mono h k fun a ha => s a (by simp [ha])) (StoOk.mono t k fun a ha => s a (by simp at ha ⊢; exact .inr ha))
theorem StoOk.live : ∀ {S : Sto} {fps : List (List Addr)}, StoOk K H S fps → ∀ a ∈ fps.flatten, ∃ o, H a = some o ∧ soft o
  | _, _, .nil, a, ha => by simp at ha
  | _, _, .cons h t, a, ha => by
    simp only [List.flatten_cons, List.mem_append] at ha
    rcases ha with ha | ha
    · exact Th.live h a ha
    · exact StoOk.live t a ha
theorem StoOk.append : ∀ {S S' : Sto} {fps gps : List (List Addr)}, StoOk K H S fps → StoOk K H S' gps → StoOk K H (S ++ S') (fps ++ gps)
  | _, _, _, _, .nil, b => b
  | _, _, _, _, .cons h t, b => .cons h (StoOk.append t b)
theorem StoOk.split : ∀ {S S' : Sto} {fps : List (List Addr)}, StoOk K H (S ++ S') fps → ∃ f g, fps = f ++ g ∧ StoOk K H S f ∧ StoOk K H S' g
  | [], S', fps, h => ⟨[], fps, rfl, .nil, h⟩
  | (x, T) :: S, S', _, .cons h t => by
    obtain ⟨f, g, e, a, b⟩ := StoOk.split (S := S) t
    exact ⟨_ :: f, g, by rw [e]; rfl, .cons h a, b⟩
theorem StoOk.get : ∀ {S : Sto} {fps : List (List Addr)} {k : Nat} {x : V} {T : Th}, StoOk K H S fps → S[k]? = some (x, T) → ∃ fp, fps[k]? = some fp ∧ T.has K H x fp
  | _, _, _, _, _, .nil, e => by simp at e
  | _, _, 0, _, _, .cons h t, e => by simp at e; obtain ⟨rfl, rfl⟩ := e; exact ⟨_, rfl, h⟩
  | _, _, k + 1, x, T, .cons h t, e => by
    obtain ⟨fp, h1, h2⟩ := StoOk.get (k := k) (x := x) (T := T) t (by simpa using e)
    exact ⟨fp, by simpa using h1, h2⟩
end
def SameBut (B : List Addr) (H H' : Hp) : Prop := ∀ a o, a ∉ B → H a = some o → H' a = some o
theorem SameBut.refl (B : List Addr) (H : Hp) : SameBut B H H := fun _ _ _ h => h
theorem SameBut.of {B : List Addr} {H H' : Hp} (s : Same H H') : SameBut B H H' := fun a o _ h => s a o h
theorem SameBut.nil {H H' : Hp} (s : SameBut [] H H') : Same H H' := fun a o h => s a o (by simp) h
/-- names and store, at a heap; H0 the heap at the entry, B what may be changed of it -/
structure Stt (K : PySem.W.Frag) (H0 : Hp) (B : List Addr) (env : Env) (S : Sto) (σ : St) (H : Hp) : Prop where
  len : env.length = σ.length
  env : ∀ (i : Nat) (d : D), env[i]? = some (some d) → ∃ x, σ[i]? = some (some x) ∧ Dat K H d x
  sto : ∃ fps, StoOk K H S fps ∧ fps.flatten.Nodup ∧ ∀ a ∈ fps.flatten, H0 a = none ∨ a ∈ B
  same : SameBut B H0 H
  tk : TK H0 H
section
variable {K : PySem.W.Frag} {H0 H H' : Hp} {B : List Addr} {env : Env} {S S' : Sto} {σ : St}
theorem Stt.grow (s : Stt K H0 B env S σ H) (g : Same H H') : Stt K H0 B env S σ H' := by
  obtain ⟨fps, h1, h2, h3⟩ := s.sto
  refine ⟨s.len, fun i d e => ?_, ⟨fps, h1.mono (TK.of g) fun a ha => ?_, h2, h3⟩, fun a o n h => g _ _ (s.same a o n h), s.tk.trans (TK.of g)⟩
  · obtain ⟨x, hx, dx⟩ := s.env i d e
    exact ⟨x, hx, dx.mono (TK.of g)⟩
  · obtain ⟨o, ho, _⟩ := h1.live a ha
    rw [ho]; exact g _ _ ho
theorem Stt.drop (s : Stt K H0 B env (S ++ S') σ H) : Stt K H0 B env S' σ H := by
  obtain ⟨fps, h1, h2, h3⟩ := s.sto
  obtain ⟨f, g, rfl, a, b⟩ := h1.split
  refine ⟨s.len, s.env, ⟨g, b, ?_, fun a ha => h3 a ?_⟩, s.same, s.tk⟩
  · rw [List.flatten_append] at h2
    exact (List.nodup_append.mp h2).2.1
  · rw [List.flatten_append]; exact List.mem_append_right _ ha
theorem Stt.fore (s : Stt K H0 B env (S ++ S') σ H) : Stt K H0 B env S σ H := by
  obtain ⟨fps, h1, h2, h3⟩ := s.sto
  obtain ⟨f, g, rfl, a, b⟩ := h1.split
  refine ⟨s.len, s.env, ⟨f, a, ?_, fun a ha => h3 a ?_⟩, s.same, s.tk⟩
  · rw [List.flatten_append] at h2
    exact (List.nodup_append.mp h2).1
  · rw [List.flatten_append]; exact List.mem_append_left _ ha
theorem Stt.put {i : Nat} {d : D} {x : V} (s : Stt K H0 B env S σ H) (h : Dat K H d x) : Stt K H0 B (env.set i (some d)) S (σ.set i (some x)) H := by
  refine ⟨by simp [s.len], fun j e hj => ?_, s.sto, s.same, s.tk⟩
  by_cases q : i = j
  · subst q
    have hl : i < env.length := by
      have := (List.getElem?_eq_some_iff.mp hj).1
      simpa using this
    rw [List.getElem?_set_self hl] at hj
    cases hj
    exact ⟨x, by rw [List.getElem?_set_self (by rw [← s.len]; exact hl)], h⟩
  · rw [List.getElem?_set_ne q] at hj
    rw [List.getElem?_set_ne q]
    exact s.env j e hj
/-- forget the names -/
theorem Stt.envs {env' : Env} {σ' : St} (s : Stt K H0 B env S σ H) (hl : env'.length = σ'.length) (h : ∀ (i : Nat) (d : D), env'[i]? = some (some d) → ∃ x, σ'[i]? = some (some x) ∧ Dat K H d x) : Stt K H0 B env' S σ' H :=
  ⟨hl, h, s.sto, s.same, s.tk⟩
/-- a new thing -/
theorem Stt.fresh {x : V} {T : Th} {fp : List Addr} (s : Stt K H0 B env S σ H) (g : Same H H') (hn : ∀ a ∈ fp, H a = none) (nd : fp.Nodup) (h : T.has K H' x fp) : Stt K H0 B env ((x, T) :: S) σ H' := by
  have s' := s.grow g
  obtain ⟨fps, h1, h2, h3⟩ := s.sto
  refine ⟨s'.len, s'.env, ⟨fp :: fps, .cons h (h1.mono (TK.of g) fun a ha => ?_), ?_, fun a ha => ?_⟩, s'.same, s'.tk⟩
  · obtain ⟨o, ho, _⟩ := h1.live a ha
    rw [ho]; exact g _ _ ho
  · rw [List.flatten_cons, List.nodup_append]
    refine ⟨nd, h2, fun a ha b hb e => ?_⟩
    subst e
    obtain ⟨o, ho, _⟩ := h1.live a hb
    rw [hn a ha] at ho; cases ho
  · rw [List.flatten_cons, List.mem_append] at ha
    rcases ha with ha | ha
    · cases e : H0 a with
      | none => exact .inl rfl
      | some o =>
        refine .inr (Classical.byContradiction fun nb => ?_)
        have := s.same a o nb e
        rw [hn a ha] at this; cases this
    · exact h3 a ha
end
theorem same_upd {H : Hp} {p : Addr} {o : HO} (h : H p = none) : Same H (upd H p o) := fun b u e => by
  rw [upd_ne (ne_of_none e h)]; exact e
theorem tk_upd {H : Hp} {p : Addr} {o u : HO} (h : H p = some u) (hs : soft u) : TK H (upd H p o) := by
  refine ⟨fun a xs e => ?_, fun a q w e => ?_⟩
  · have : a ≠ p := fun z => by rw [z, h] at e; cases e; exact hs
    rw [upd_ne this]; exact e
  · have : a ≠ p := fun z => by rw [z, h] at e; cases e; exact hs
    rw [upd_ne this]; exact e
end DL
namespace DL
open PySem L2
section
variable {K : PySem.W.Frag} {H0 H H' : Hp} {B : List Addr} {env : Env} {S S' : Sto} {σ : St}
theorem flat_set {α : Type} : ∀ {l : List (List α)} {k : Nat} {f : List α}, l[k]? = some f → (l.set k f) = l
  | [], k, f, h => by simp at h
  | x :: l, 0, f, h => by simp at h; subst h; rfl
  | x :: l, k + 1, f, h => by
    rw [List.set_cons_succ, flat_set (l := l) (by simpa using h)]
theorem nodup_apart {α : Type} : ∀ {l : List (List α)} {k j : Nat} {f g : List α} {a : α}, l.flatten.Nodup → l[k]? = some f → l[j]? = some g → a ∈ f → a ∈ g → k = j
  | [], k, j, f, g, a, _, h, _, _, _ => by simp at h
  | x :: l, 0, 0, f, g, a, _, _, _, _, _ => rfl
  | x :: l, k + 1, 0, f, g, a, nd, h1, h2, ha, hb => by
    simp at h1 h2; subst h2
    rw [List.flatten_cons, List.nodup_append] at nd
    exact absurd rfl (nd.2.2 a hb a (List.mem_flatten.mpr ⟨f, List.mem_of_getElem? h1, ha⟩))
  | x :: l, 0, j + 1, f, g, a, nd, h1, h2, ha, hb => by
    simp at h1 h2; subst h1
    rw [List.flatten_cons, List.nodup_append] at nd
    exact absurd rfl (nd.2.2 a ha a (List.mem_flatten.mpr ⟨g, List.mem_of_getElem? h2, hb⟩))
  | x :: l, k + 1, j + 1, f, g, a, nd, h1, h2, ha, hb => by
    rw [List.flatten_cons, List.nodup_append] at nd
    rw [nodup_apart (l := l) (k := k) (j := j) nd.2.1 (by simpa using h1) (by simpa using h2) ha hb]
/-- the k-th thing is put anew, on its own ground -/
theorem StoOk.put : ∀ {S : Sto} {fps : List (List Addr)} {k : Nat} {x : V} {T : Th} {fp : List Addr}, StoOk K H S fps → fps[k]? = some fp → TK H H' → (∀ j g a, j ≠ k → fps[j]? = some g → a ∈ g → H' a = H a) → T.has K H' x fp → StoOk K H' (S.set k (x, T)) fps
  | _, _, _, _, _, _, .nil, e, _, _, _ => by simp at e
  | _, _, 0, _, _, _, .cons h t, e, k, s, n => by
    simp at e; subst e
    exact .cons n (t.mono k fun a ha => by
      obtain ⟨g, hg, hag⟩ := List.mem_flatten.mp ha
      obtain ⟨j, hj⟩ := List.getElem?_of_mem hg
      exact s (j + 1) g a (by omega) (by simpa using hj) hag)
  | _, _, i + 1, _, _, _, .cons h t, e, k, s, n => by
    refine .cons (Th.mono h k fun a ha => s 0 _ a (by omega) rfl ha) (StoOk.put t (by simpa using e) k (fun j g a hj hg ha => s (j + 1) g a (by omega) (by simpa using hg) ha) n)
theorem Stt.mut {k : Nat} {x : V} {T T' : Th} (s : Stt K H0 B env S σ H) (hk : S[k]? = some (x, T)) (tk : TK H H')
    (h : ∀ fp, T.has K H x fp → T'.has K H' x fp ∧ ∀ a o, a ∉ fp → H a = some o → H' a = some o) : Stt K H0 B env (S.set k (x, T')) σ H' := by
  obtain ⟨fps, h1, h2, h3⟩ := s.sto
  obtain ⟨fp, hf, hh⟩ := h1.get hk
  obtain ⟨n, sm⟩ := h fp hh
  have lv := h1.live
  have new : ∀ a ∈ fp, H0 a = none ∨ a ∈ B := fun a ha => h3 a (List.mem_flatten.mpr ⟨fp, List.mem_of_getElem? hf, ha⟩)
  refine ⟨s.len, fun i d e => ?_, ⟨fps, h1.put hf tk (fun j g a hj hg ha => ?_) n, h2, h3⟩, fun a o nb e => ?_, s.tk.trans tk⟩
  · obtain ⟨y, hy, dy⟩ := s.env i d e
    exact ⟨y, hy, dy.mono tk⟩
  · have na : a ∉ fp := fun hb => hj (nodup_apart h2 hg hf ha hb)
    obtain ⟨o, ho, _⟩ := lv a (List.mem_flatten.mpr ⟨g, List.mem_of_getElem? hg, ha⟩)
    rw [ho]; exact sm a o na ho
  · have na : a ∉ fp := fun ha => by
      rcases new a ha with z | z
      · rw [z] at e; cases e
      · exact nb z
    exact sm a o na (s.same a o nb e)
/-- a list is put anew -/
theorem Stt.mutL {k : Nat} {x : V} {ds es : List D} (s : Stt K H0 B env S σ H) (hk : S[k]? = some (x, .l ds)) :
    ∃ a vs, x = .ref a ∧ H a = some (.lst vs) ∧ DatL K H ds vs ∧ ∀ ws, DatL K H es ws → TK H (upd H a (.lst ws)) ∧ Stt K H0 B env (S.set k (x, .l es)) σ (upd H a (.lst ws)) := by
  obtain ⟨fps, h1, h2, h3⟩ := id s.sto
  obtain ⟨fp, hf, hh⟩ := h1.get hk
  obtain ⟨a, vs, rfl, rfl, ha, hd⟩ := hh
  refine ⟨a, vs, rfl, ha, hd, fun ws hw => ?_⟩
  have tk : TK H (upd H a (.lst ws)) := tk_upd ha trivial
  refine ⟨tk, s.mut hk tk fun fp' hh' => ?_⟩
  obtain ⟨b, us, e, rfl, hb, _⟩ := hh'
  cases e
  exact ⟨⟨a, ws, rfl, rfl, upd_same, hw.mono tk⟩, fun c o nc hc => by rw [upd_ne (by simpa using nc)]; exact hc⟩
theorem Stt.lst {k : Nat} {x : V} {ds : List D} (s : Stt K H0 B env S σ H) (hk : S[k]? = some (x, .l ds)) : ∃ a vs, x = .ref a ∧ H a = some (.lst vs) ∧ DatL K H ds vs := by
  obtain ⟨fps, h1, h2, h3⟩ := id s.sto
  obtain ⟨fp, hf, hh⟩ := h1.get hk
  obtain ⟨a, vs, rfl, rfl, ha, hd⟩ := hh
  exact ⟨a, vs, rfl, ha, hd⟩
theorem Stt.newL {a : Addr} {vs : List V} {ds : List D} (s : Stt K H0 B env S σ H) (g : Same H H') (hn : H a = none) (ha : H' a = some (.lst vs)) (hd : DatL K H' ds vs) : Stt K H0 B env ((.ref a, .l ds) :: S) σ H' :=
  s.fresh (fp := [a]) g (by simpa using hn) (by simp) ⟨a, vs, rfl, rfl, ha, hd⟩
end
/-- what an exception bears -/
def XdOk (K : PySem.W.Frag) (H : Hp) (od : Option Addr) (fs : List (Str × D)) : Prop := match od with
  | none => fs = []
  | some dd => ∃ gs, H dd = some (.xd gs) ∧ gs.map Prod.fst = fs.map Prod.fst ∧ DatL K H (fs.map Prod.snd) (gs.map Prod.snd)
abbrev XP := Addr → List (Str × D) → Prop
def XF : XP := fun _ _ => False
def Good (K : PySem.W.Frag) (E : XK) (H0 : Hp) (B : List Addr) (Xs : XP) : Prop := ∀ C od H' fs, SameBut B H0 H' → TK H0 H' → XdOk K H' od fs → Xs C fs → E (.ref C) od H'
theorem good0 {K : PySem.W.Frag} {E : XK} {H0 : Hp} {B : List Addr} : Good K E H0 B XF := fun _ _ _ _ _ _ _ h => h.elim
/-- an expression, without a change: data, a truth, a list of data (arguments), a new list -/
def ED (K : PySem.W.Frag) (te : TE) (env : Env) (S : Sto) (d : D) : Prop := ∀ H0 B σ H, Stt K H0 B env S σ H → ∀ Q : VK, (∀ v H', Same H H' → Dat K H' d v → Q v H') → te σ H Q
def ET (K : PySem.W.Frag) (tt : TT) (env : Env) (S : Sto) (b : Bool) : Prop := ∀ H0 B σ H, Stt K H0 B env S σ H → ∀ Q : Bool → Hp → Prop, (∀ H', Same H H' → Q b H') → tt σ H Q
def EA (K : PySem.W.Frag) (ta : TA) (env : Env) (S : Sto) (ds : List D) : Prop := ∀ H0 B σ H, Stt K H0 B env S σ H → ∀ Q : List V → Hp → Prop, (∀ vs H', Same H H' → DatL K H' ds vs → Q vs H') → ta σ H Q
def EL (K : PySem.W.Frag) (te : TE) (env : Env) (S : Sto) (ds : List D) : Prop := ∀ H0 B σ H, Stt K H0 B env S σ H → ∀ Q : VK, (∀ a vs H', Same H H' → H a = none → H' a = some (.lst vs) → DatL K H' ds vs → Q (.ref a) H') → te σ H Q
def EO (K : PySem.W.Frag) (to : TO) (env : Env) (S : Sto) (o : Option Int) : Prop := ∀ H0 B σ H, Stt K H0 B env S σ H → ∀ Q : Option Int → Hp → Prop, (∀ H', Same H H' → Q o H') → to σ H Q
/-- .. with a change of the store -/
def EvE (K : PySem.W.Frag) (E : XK) (Xs : XP) (te : TE) (env : Env) (S : Sto) (P : D → Sto → Prop) : Prop := ∀ H0 B σ H, Good K E H0 B Xs → Stt K H0 B env S σ H → ∀ Q : VK, (∀ d S' v H', TK H H' → Stt K H0 B env S' σ H' → Dat K H' d v → P d S' → Q v H') → te σ H Q
def EvT (K : PySem.W.Frag) (E : XK) (Xs : XP) (tt : TT) (env : Env) (S : Sto) (P : Bool → Sto → Prop) : Prop := ∀ H0 B σ H, Good K E H0 B Xs → Stt K H0 B env S σ H → ∀ Q : Bool → Hp → Prop, (∀ b S' H', TK H H' → Stt K H0 B env S' σ H' → P b S' → Q b H') → tt σ H Q
def EvA (K : PySem.W.Frag) (E : XK) (Xs : XP) (ta : TA) (env : Env) (S : Sto) (P : List D → Sto → Prop) : Prop := ∀ H0 B σ H, Good K E H0 B Xs → Stt K H0 B env S σ H → ∀ Q : List V → Hp → Prop, (∀ ds S' vs H', TK H H' → Stt K H0 B env S' σ H' → DatL K H' ds vs → P ds S' → Q vs H') → ta σ H Q
structure Out where
  nx : Env → Sto → Prop
  rt : D → Sto → Prop
  bk : Env → Sto → Prop
  ct : Env → Sto → Prop
def EvS (K : PySem.W.Frag) (E : XK) (Xs : XP) (ts : TS) (env : Env) (S : Sto) (O : Out) : Prop := ∀ H0 B σ H, Good K E H0 B Xs → Stt K H0 B env S σ H → ∀ Z : Ends,
  (∀ env' S' σ' H', Stt K H0 B env' S' σ' H' → O.nx env' S' → Z.nx σ' H') →
  (∀ d S' v env' σ' H', Stt K H0 B env' S' σ' H' → Dat K H' d v → O.rt d S' → Z.rt v H') →
  (∀ env' S' σ' H', Stt K H0 B env' S' σ' H' → O.bk env' S' → Z.bk σ' H') →
  (∀ env' S' σ' H', Stt K H0 B env' S' σ' H' → O.ct env' S' → Z.ct σ' H') → ts Z σ H
/-- a target -/
def EvG (K : PySem.W.Frag) (g : TG) (env : Env) (d : D) (env' : Env) : Prop := ∀ H0 B S σ H v, Stt K H0 B env S σ H → Dat K H d v → ∀ Q : St → Hp → Prop, (∀ σ', Stt K H0 B env' S σ' H → Q σ' H) → g v σ H Q
def EvGs (K : PySem.W.Frag) (g : TGs) (env : Env) (ds : List D) (env' : Env) : Prop := ∀ H0 B S σ H vs, Stt K H0 B env S σ H → DatL K H ds vs → ∀ Q : St → Hp → Prop, (∀ σ', Stt K H0 B env' S σ' H → Q σ' H) → g vs σ H Q
/-- what a for walks: its items, the store with what is walked, what must stay of the store -/
def EvI (K : PySem.W.Frag) (E : XK) (Xs : XP) (wi : TI) (env : Env) (S : Sto) (P : List D → Sto → (Sto → Prop) → Prop) : Prop := ∀ H0 B σ H, Good K E H0 B Xs → Stt K H0 B env S σ H → ∀ R : It → Hp → Prop,
  (∀ its S1 Kp J G Y H1, P its S1 Kp → Stt K H0 B env S1 σ H1 → TK H H1 → Walk J its.length G Y → (∀ env' S' σ' H', Stt K H0 B env' S' σ' H' → TK H1 H' → Kp S' → G H') →
    (∀ i Ha x Hb, i < its.length → Y i Ha x Hb → G Ha → TK H1 Ha → Same Ha Hb ∧ ∃ d, its[i]? = some d ∧ Dat K Hb d x) → R J H1) → wi σ H R
def RD (K : PySem.W.Frag) (r : R2) (x y z : D) : Prop := ∀ H v w, Dat K H x v → Dat K H y w → ∀ Q : VK, (∀ u H', Same H H' → Dat K H' z u → Q u H') → r v w H Q
def RU (K : PySem.W.Frag) (r : V → Hp → VK → Prop) (x z : D) : Prop := ∀ H v, Dat K H x v → ∀ Q : VK, (∀ u H', Same H H' → Dat K H' z u → Q u H') → r v H Q
def RC (K : PySem.W.Frag) (r : List V → Hp → VK → Prop) (xs : List D) (z : D) : Prop := ∀ H vs, DatL K H xs vs → ∀ Q : VK, (∀ u H', Same H H' → Dat K H' z u → Q u H') → r vs H Q
section
variable {K : PySem.W.Frag} {E : XK} {Xs : XP} {env env' : Env} {S S' : Sto} {ta tb te tx : TE} {t u : TT} {tl : TA} {x y z d e : D} {r : R2} {ds es : List D}
theorem ed_var {i : Nat} (h : env[i]? = some (some d)) : ED K (tVar i) env S d := fun H0 B σ H s Q q => by
  obtain ⟨x, hx, dx⟩ := s.env i d h
  exact ⟨x, hx, q x H (Same.refl H) dx⟩
theorem ed_c {v : V} : ED K (tC v) env S (.v v) := fun H0 B σ H s Q q => q v H (Same.refl H) .v
/-- a constant of the module -/
theorem ed_k {v : V} (h : ∀ H, Dat K H d v) : ED K (tC v) env S d := fun H0 B σ H s Q q => q v H (Same.refl H) (h H)
theorem ed_op (ha : ED K ta env S x) (hb : ED K tb env S y) (hr : RD K r x y z) : ED K (tOp r ta tb) env S z := fun H0 B σ H s Q q =>
  ha H0 B σ H s _ fun v H1 g1 dv => hb H0 B σ H1 (s.grow g1) _ fun w H2 g2 dw => hr H2 v w (dv.mono (TK.of g2)) dw Q fun u H3 g3 du => q u H3 (g1.trans (g2.trans g3)) du
theorem ed_un {r : V → Hp → VK → Prop} (ha : ED K ta env S x) (hr : RU K r x z) : ED K (tUn r ta) env S z := fun H0 B σ H s Q q =>
  ha H0 B σ H s _ fun v H1 g1 dv => hr H1 v dv Q fun u H3 g3 du => q u H3 (g1.trans g3) du
theorem ed_cb {r : List V → Hp → VK → Prop} (ha : EA K tl env S ds) (hr : RC K r ds z) : ED K (tCB r tl) env S z := fun H0 B σ H s Q q =>
  ha H0 B σ H s _ fun v H1 g1 dv => hr H1 v dv Q fun u H3 g3 du => q u H3 (g1.trans g3) du
theorem ea_nil : EA K tNil env S [] := fun H0 B σ H s Q q => q [] H (Same.refl H) .nil
theorem ea_cons (h : ED K te env S d) (hr : EA K tl env S ds) : EA K (tCons te tl) env S (d :: ds) := fun H0 B σ H s Q q =>
  h H0 B σ H s _ fun v H1 g1 dv => hr H0 B σ H1 (s.grow g1) _ fun vs H2 g2 dvs => q (v :: vs) H2 (g1.trans g2) (.cons (dv.mono (TK.of g2)) dvs)
theorem sz6 {n : Nat} (h : n ≤ 1000000) : n ≤ sizeLine := Nat.le_trans h (by decide)
theorem sz6l {n : Nat} (h : n < 1000000) : n < sizeLine := Nat.lt_of_lt_of_le h (by decide)
theorem ed_tup (h : EA K tl env S ds) (hl : ds.length ≤ 1000000 := by first | decide | simp) : ED K (tTup tl) env S (.t ds) := fun H0 B σ H s Q q =>
  h H0 B σ H s _ fun vs H1 g1 dvs => ⟨by rw [← dvs.length]; exact sz6 hl, fun p hp => q _ _ (g1.trans (same_upd hp)) (.t (.inl (.inl upd_same)) (dvs.mono (TK.of (same_upd hp))))⟩
theorem el_lst (h : EA K tl env S ds) (hl : ds.length ≤ 1000000 := by first | decide | simp) : EL K (tLst tl) env S ds := fun H0 B σ H s Q q =>
  h H0 B σ H s _ fun vs H1 g1 dvs => ⟨by rw [← dvs.length]; exact sz6 hl, fun p hp => q p vs _ (g1.trans (same_upd hp)) (g1.free hp) upd_same (dvs.mono (TK.of (same_upd hp)))⟩
theorem ed_is (h : ED K te env S d) (e' : d = e) : ED K te env S e := e' ▸ h
theorem et_is {a b : Bool} (h : ET K t env S a) (e' : a = b) : ET K t env S b := e' ▸ h
theorem el_is (h : EL K te env S ds) (e' : ds = es) : EL K te env S es := e' ▸ h
theorem et_test {b : Bool} (h : ED K te env S (.v (.bl b))) : ET K (tTest te) env S b := fun H0 B σ H s Q q => h H0 B σ H s _ fun v H1 g1 dv => ⟨b, dv.vv, q H1 g1⟩
theorem et_B {b : Bool} (h : ED K te env S (.v (.bl b))) : ET K (tB te) env S b := fun H0 B σ H s Q q => h H0 B σ H s _ fun v H1 g1 dv => ⟨b, dv.vv, q H1 g1⟩
theorem et_yes : ET K tYes env S true := fun H0 B σ H s Q q => q H (Same.refl H)
theorem et_and {a b : Bool} (h1 : ET K t env S a) (h2 : a = true → ET K u env S b) : ET K (tAnd t u) env S (a && b) := fun H0 B σ H s Q q => h1 H0 B σ H s _ fun H1 g1 => by
  cases a with
  | true => exact h2 rfl H0 B σ H1 (s.grow g1) Q fun H2 g2 => q H2 (g1.trans g2)
  | false => exact q H1 g1
theorem et_or {a b : Bool} (h1 : ET K t env S a) (h2 : a = false → ET K u env S b) : ET K (tOr t u) env S (a || b) := fun H0 B σ H s Q q => h1 H0 B σ H s _ fun H1 g1 => by
  cases a with
  | true => exact q H1 g1
  | false => exact h2 rfl H0 B σ H1 (s.grow g1) Q fun H2 g2 => q H2 (g1.trans g2)
theorem et_not {a : Bool} (h1 : ET K t env S a) : ET K (tNot t) env S (!a) := fun H0 B σ H s Q q => h1 H0 B σ H s _ fun H1 g1 => q H1 g1
theorem ed_and {a b : Bool} (h1 : ED K ta env S (.v (.bl a))) (h2 : a = true → ED K tb env S (.v (.bl b))) : ED K (tAndV ta tb) env S (.v (.bl (a && b))) := fun H0 B σ H s Q q => h1 H0 B σ H s _ fun v H1 g1 dv => ⟨a, dv.vv, by
  cases a with
  | true => exact h2 rfl H0 B σ H1 (s.grow g1) Q fun w H2 g2 dw => q w H2 (g1.trans g2) dw
  | false => exact q _ H1 g1 .v⟩
theorem ed_or {a b : Bool} (h1 : ED K ta env S (.v (.bl a))) (h2 : a = false → ED K tb env S (.v (.bl b))) : ED K (tOrV ta tb) env S (.v (.bl (a || b))) := fun H0 B σ H s Q q => h1 H0 B σ H s _ fun v H1 g1 dv => ⟨a, dv.vv, by
  cases a with
  | true => exact q _ H1 g1 .v
  | false => exact h2 rfl H0 B σ H1 (s.grow g1) Q fun w H2 g2 dw => q w H2 (g1.trans g2) dw⟩
theorem ed_not {a : Bool} (h1 : ED K ta env S (.v (.bl a))) : ED K (tNotV ta) env S (.v (.bl (!a))) := fun H0 B σ H s Q q => h1 H0 B σ H s _ fun v H1 g1 dv => ⟨a, dv.vv, q _ H1 g1 .v⟩
theorem ed_if {b : Bool} (h : ET K t env S b) (h1 : b = true → ED K ta env S d) (h2 : b = false → ED K tb env S d) : ED K (tIf t ta tb) env S d := fun H0 B σ H s Q q => h H0 B σ H s _ fun H1 g1 => by
  cases b with
  | true => exact h1 rfl H0 B σ H1 (s.grow g1) Q fun w H2 g2 dw => q w H2 (g1.trans g2) dw
  | false => exact h2 rfl H0 B σ H1 (s.grow g1) Q fun w H2 g2 dw => q w H2 (g1.trans g2) dw
theorem rd_I0 {g : Int → Int → V} {i j : Int} : RD K (rI0 g) (.v (.int i)) (.v (.int j)) (.v (g i j)) := fun H v w hv hw Q q => ⟨i, j, hv.vv, hw.vv, q _ H (Same.refl H) .v⟩
theorem rd_I {C : Int → Int → Prop} {g : Int → Int → V} {i j : Int} (hc : C i j) : RD K (rI C g) (.v (.int i)) (.v (.int j)) (.v (g i j)) := fun H v w hv hw Q q => ⟨i, j, hv.vv, hw.vv, hc, q _ H (Same.refl H) .v⟩
theorem rd_eq {v w : V} (h : scal v w = true) : RD K rEq (.v v) (.v w) (.v (.bl (decide (v = w)))) := fun H a b ha hb Q q => by
  rw [ha.vv, hb.vv]; exact ⟨h, q _ H (Same.refl H) .v⟩
theorem rd_ne {v w : V} (h : scal v w = true) : RD K rNe (.v v) (.v w) (.v (.bl (!decide (v = w)))) := fun H a b ha hb Q q => by
  rw [ha.vv, hb.vv]; exact ⟨h, q _ H (Same.refl H) .v⟩
theorem ixN_lt {n : Nat} {i : Int} {j : Nat} (h : ixN n i = some j) : True := trivial
theorem atI_dat {H : Hp} {ds : List D} {vs : List V} {i : Int} (h : DatL K H ds vs) (e : atI ds i = some d) : ∃ v, atI vs i = some v ∧ Dat K H d v := by
  unfold atI at e ⊢
  rw [← h.length]
  cases q : ixN ds.length i with
  | none => rw [q] at e; cases e
  | some j =>
    rw [q] at e
    exact h.get e
/-- t[i] -/
theorem rd_ixT {i : Int} (h : atI ds i = some d) : RD K (rIxT K) (.t ds) (.v (.int i)) d := fun H v w hv hw Q q => by
  obtain ⟨a, vs, rfl, hs, hl⟩ := hv.tt
  obtain ⟨y, hy, dy⟩ := atI_dat hl h
  rw [hw.vv]
  exact ⟨a, vs, i, y, rfl, rfl, hs, hy, q y H (Same.refl H) dy⟩
/-- t + u -/
theorem rd_catA (hl : ds.length + es.length ≤ 1000000 := by decide) : RD K (rCatA K) (.t ds) (.t es) (.t (ds ++ es)) := fun H v w hv hw Q q => by
  obtain ⟨a, vs, rfl, hs, l1⟩ := hv.tt
  obtain ⟨b, ws, rfl, hs2, l2⟩ := hw.tt
  refine ⟨a, b, vs, ws, rfl, rfl, hs, hs2, by rw [← l1.length, ← l2.length]; exact sz6 hl, fun e => ?_, fun _ e => ?_, fun _ _ p hp => ?_⟩
  · subst e
    have : ds = [] := by cases l1; rfl
    subst this
    exact q _ H (Same.refl H) (.t hs2 l2)
  · subst e
    have : es = [] := by cases l2; rfl
    subst this
    rw [List.append_nil] at q
    exact q _ H (Same.refl H) (.t hs l1)
  · exact q _ _ (same_upd hp) (.t (.inl (.inl upd_same)) ((l1.append l2).mono (TK.of (same_upd hp))))
/-- .. is None -/
def isN : D → Bool
  | .v x => decide (x = .non)
  | _ => false
theorem isN_dat {H : Hp} {v : V} (h : Dat K H d v) : decide (v = .non) = isN d := by
  cases h with
  | v => rfl
  | t _ _ => exact decide_eq_false (fun z => nomatch z)
  | s _ _ => exact decide_eq_false (fun z => nomatch z)
theorem rd_isN : RD K (fun x y H Q => y = .non ∧ Q (.bl (decide (x = .non))) H) d (.v .non) (.v (.bl (isN d))) := fun H v w hv hw Q q =>
  ⟨hw.vv, by rw [isN_dat hv]; exact q _ H (Same.refl H) .v⟩
theorem rd_notN : RD K (fun x y H Q => y = .non ∧ Q (.bl (!decide (x = .non))) H) d (.v .non) (.v (.bl (!isN d))) := fun H v w hv hw Q q =>
  ⟨hw.vv, by rw [isN_dat hv]; exact q _ H (Same.refl H) .v⟩
end
end DL
namespace DL
open PySem L2
/-- what a def does, by data: the arguments, what it is lent; the wish of what it hands back, of what it raises -/
abbrev Spec := List D → Sto → (D → Sto → Prop) → XP → Prop
def spD (K : PySem.W.Frag) (P : Spec) : Sp := fun vs H Q E => ∃ ds S fps R Xs, DatL K H ds vs ∧ StoOk K H S fps ∧ fps.flatten.Nodup ∧ P ds S R Xs ∧
  (∀ d S' v H' fps', TK H H' → SameBut fps.flatten H H' → StoOk K H' S' fps' → fps'.flatten.Nodup → (∀ a ∈ fps'.flatten, H a = none ∨ a ∈ fps.flatten) → Dat K H' d v → R d S' → Q v H') ∧ Good K E H fps.flatten Xs
/-- names at the entry -/
def startE (N : List Str) (ds : List D) : Env := ds.map some ++ List.replicate (N.length - ds.length) none
def outR (R : D → Sto → Prop) : Out := ⟨fun _ S => R (.v .non) S, R, fun _ _ => False, fun _ _ => False⟩
section
variable {K : PySem.W.Frag} {E E' : XK} {Xs : XP} {env env' : Env} {S S' : Sto} {ta tb te tx : TE} {t u : TT} {tl : TA} {x y z d e : D} {r : R2} {ds es : List D} {P : Spec} {dvs : List V}
/-- a call that changes nothing, of a def that raises nothing -/
theorem ed_callP (ha : EA K tl env S ds) (hd : ∀ H, DatL K H es dvs) (h : P (ds ++ es) [] (fun d' S' => d' = d ∧ S' = []) XF) : ED K (tCall (spD K P) dvs E tl) env S d := fun H0 B σ H s Q q =>
  ha H0 B σ H s _ fun vs H1 g1 dv => ⟨ds ++ es, [], [], _, _, dv.append (hd H1), .nil, by simp, h, fun d' S' v H' fps' tk sb so nd fr dd rr => by
    obtain ⟨rfl, rfl⟩ := rr
    exact q v H' (g1.trans (SameBut.nil (by simpa using sb))) dd, good0⟩
theorem ed_call (ha : EA K tl env S ds) (h : P ds [] (fun d' S' => d' = d ∧ S' = []) XF) : ED K (tCall (spD K P) [] E tl) env S d := ed_callP (es := []) ha (fun _ => .nil) (by rw [List.append_nil]; exact h)
/-- .. that hands back a new list -/
theorem el_call (ha : EA K tl env S ds) (h : P ds [] (fun d' S' => ∃ x, d' = .v x ∧ S' = [(x, .l es)]) XF) : EL K (tCall (spD K P) [] E tl) env S es := fun H0 B σ H s Q q =>
  ha H0 B σ H s _ fun vs H1 g1 dv => ⟨ds, [], [], _, _, by rw [List.append_nil]; exact dv, .nil, by simp, h, fun d' S' v H' fps' tk sb so nd fr dd rr => by
    obtain ⟨x, rfl, rfl⟩ := rr
    cases so with
    | cons a b =>
      obtain ⟨p, ws, rfl, rfl, hp, hd⟩ := a
      rw [dd.vv]
      refine q p ws H' (g1.trans (SameBut.nil (by simpa using sb))) ?_ hp hd
      rcases fr p (by simp) with z | z
      · exact g1.free z
      · simp at z, good0⟩
theorem eo_none : EO K tNoPart env S none := fun H0 B σ H s Q q => q H (Same.refl H)
theorem eo_some {i : Int} (h : ED K te env S (.v (.int i))) : EO K (tPart te) env S (some i) := fun H0 B σ H s Q q => h H0 B σ H s _ fun v H1 g1 dv => ⟨i, dv.vv, q H1 g1⟩
/-- the part lo:hi -/
def cut {α : Type} (xs : List α) (lo hi : Option Int) : List α := (xs.drop (HT.sIx xs.length 0 lo)).take (HT.sIx xs.length xs.length hi - HT.sIx xs.length 0 lo)
theorem cut_dat {H : Hp} {vs : List V} {lo hi : Option Int} (h : DatL K H ds vs) : DatL K H (cut ds lo hi) (cutV vs lo hi) := by
  unfold cut cutV
  rw [← h.length]
  exact (h.drop _).take _
theorem cut_whole {α : Type} {xs : List α} {lo hi : Option Int} (h : HT.sIx xs.length 0 lo = 0 ∧ HT.sIx xs.length xs.length hi = xs.length) : cut xs lo hi = xs := by
  unfold cut
  rw [h.1, h.2]; simp
theorem ed_slT {tl th : TO} {lo hi : Option Int} (h : ED K te env S (.t ds)) (h1 : EO K tl env S lo) (h2 : EO K th env S hi) : ED K (tSl (rSlA K) te tl th) env S (.t (cut ds lo hi)) := fun H0 B σ H s Q q =>
  h H0 B σ H s _ fun v H1 g1 dv => h1 H0 B σ H1 (s.grow g1) _ fun H2 g2 => h2 H0 B σ H2 ((s.grow g1).grow g2) _ fun H3 g3 => by
    obtain ⟨a, vs, rfl, hs, hl⟩ := (dv.mono (TK.of (g2.trans g3))).tt
    have G := g1.trans (g2.trans g3)
    refine ⟨a, vs, rfl, hs, fun w => ?_, fun w p hp => ?_⟩
    · rw [← hl.length] at w
      rw [cut_whole w] at q
      exact q _ H3 G (.t hs hl)
    · exact q _ _ (G.trans (same_upd hp)) (.t (.inl (.inl upd_same)) ((cut_dat hl).mono (TK.of (same_upd hp))))
/-- a list that may be read: one of ours, one that stands still -/
def Lst (S : Sto) (d : D) (ds : List D) : Prop := d = .s ds ∨ ∃ (k : Nat) (x : V), d = .v x ∧ S[k]? = some (x, .l ds)
theorem lst_of {k : Nat} {x : V} (h : S[k]? = some (x, .l ds)) : Lst S (.v x) ds := .inr ⟨k, x, rfl, h⟩
theorem Lst.sq {H0 H : Hp} {B : List Addr} {σ : St} {v : V} (l : Lst S d ds) (s : Stt K H0 B env S σ H) (h : Dat K H d v) : ∃ a vs, v = .ref a ∧ SqL K H a vs ∧ DatL K H ds vs := by
  rcases l with rfl | ⟨k, x, rfl, hk⟩
  · obtain ⟨a, vs, rfl, ha, hl⟩ := h.ss
    exact ⟨a, vs, rfl, ha.sq, hl⟩
  · obtain ⟨a, vs, rfl, ha, hl⟩ := s.lst hk
    exact ⟨a, vs, h.vv, SqL.of ha, hl⟩
theorem el_slL {tl th : TO} {lo hi : Option Int} (h : ED K te env S d) (l : Lst S d ds) (h1 : EO K tl env S lo) (h2 : EO K th env S hi) : EL K (tSl (rSlL K) te tl th) env S (cut ds lo hi) := fun H0 B σ H s Q q =>
  h H0 B σ H s _ fun v H1 g1 dv => h1 H0 B σ H1 (s.grow g1) _ fun H2 g2 => h2 H0 B σ H2 ((s.grow g1).grow g2) _ fun H3 g3 => by
    have G := g1.trans (g2.trans g3)
    obtain ⟨a, vs, rfl, hs, hl⟩ := l.sq (s.grow G) (dv.mono (TK.of (g2.trans g3)))
    exact ⟨a, vs, rfl, hs, fun p hp => q p _ _ (G.trans (same_upd hp)) (G.free hp) upd_same ((cut_dat hl).mono (TK.of (same_upd hp)))⟩
/-- xs[i] -/
theorem ed_ixL {i : Int} (ha : ED K ta env S x) (l : Lst S x ds) (hb : ED K tb env S (.v (.int i))) (h : atI ds i = some d) : ED K (tOp (rIxL K) ta tb) env S d := fun H0 B σ H s Q q =>
  ha H0 B σ H s _ fun v H1 g1 dv => hb H0 B σ H1 (s.grow g1) _ fun w H2 g2 dw => by
    have G := g1.trans g2
    obtain ⟨a, vs, rfl, hs, hl⟩ := l.sq (s.grow G) (dv.mono (TK.of g2))
    obtain ⟨y, hy, dy⟩ := atI_dat hl h
    rw [dw.vv]
    exact ⟨a, vs, i, y, rfl, rfl, hs, hy, q y H2 G dy⟩
/-- len of a list, of a tuple -/
theorem ed_lenL (ha : ED K ta env S x) (l : Lst S x ds) : ED K (tCB (fun xs H Q => ∃ p ys, xs = [.ref p] ∧ (SqL K H p ys ∨ SqT K H p ys) ∧ Q (.int ys.length) H) (tCons ta tNil)) env S (.v (.int (ds.length : Int))) := fun H0 B σ H s Q q =>
  ha H0 B σ H s _ fun v H1 g1 dv => by
    obtain ⟨a, vs, rfl, hs, hl⟩ := l.sq (s.grow g1) dv
    exact ⟨a, vs, rfl, .inl hs, by rw [← hl.length]; exact q _ H1 g1 .v⟩
theorem ed_lenT (ha : ED K ta env S (.t ds)) : ED K (tCB (fun xs H Q => ∃ p ys, xs = [.ref p] ∧ (SqL K H p ys ∨ SqT K H p ys) ∧ Q (.int ys.length) H) (tCons ta tNil)) env S (.v (.int (ds.length : Int))) := fun H0 B σ H s Q q =>
  ha H0 B σ H s _ fun v H1 g1 dv => by
    obtain ⟨a, vs, rfl, hs, hl⟩ := dv.tt
    exact ⟨a, vs, rfl, .inr hs, by rw [← hl.length]; exact q _ H1 g1 .v⟩
/-- .. of a new list -/
theorem ed_lenN (ha : EL K ta env S ds) : ED K (tCB (fun xs H Q => ∃ p ys, xs = [.ref p] ∧ (SqL K H p ys ∨ SqT K H p ys) ∧ Q (.int ys.length) H) (tCons ta tNil)) env S (.v (.int (ds.length : Int))) := fun H0 B σ H s Q q =>
  ha H0 B σ H s _ fun a vs H1 g1 hn ha hl => ⟨a, vs, rfl, .inl (SqL.of ha), by rw [← hl.length]; exact q _ H1 g1 .v⟩
/-- list(t), list(xs) -/
theorem el_listT (ha : ED K ta env S (.t ds)) : EL K (tCB (fun xs H Q => ∃ p ys, xs = [.ref p] ∧ (SqL K H p ys ∨ SqT K H p ys) ∧ ∀ l, H l = none → Q (.ref l) (upd H l (.lst ys))) (tCons ta tNil)) env S ds := fun H0 B σ H s Q q =>
  ha H0 B σ H s _ fun v H1 g1 dv => by
    obtain ⟨a, vs, rfl, hs, hl⟩ := dv.tt
    exact ⟨a, vs, rfl, .inr hs, fun p hp => q p _ _ (g1.trans (same_upd hp)) (g1.free hp) upd_same (hl.mono (TK.of (same_upd hp)))⟩
theorem el_listL (ha : ED K ta env S x) (l : Lst S x ds) : EL K (tCB (fun xs H Q => ∃ p ys, xs = [.ref p] ∧ (SqL K H p ys ∨ SqT K H p ys) ∧ ∀ l, H l = none → Q (.ref l) (upd H l (.lst ys))) (tCons ta tNil)) env S ds := fun H0 B σ H s Q q =>
  ha H0 B σ H s _ fun v H1 g1 dv => by
    obtain ⟨a, vs, rfl, hs, hl⟩ := l.sq (s.grow g1) dv
    exact ⟨a, vs, rfl, .inl hs, fun p hp => q p _ _ (g1.trans (same_upd hp)) (g1.free hp) upd_same (hl.mono (TK.of (same_upd hp)))⟩
/-- tuple(xs) of a list, a new list, a tuple -/
theorem ed_tupleN (ha : EL K ta env S ds) : ED K (tCB (fun xs H Q => ∃ p ys, xs = [.ref p] ∧ ((SqL K H p ys ∧ ∀ l, H l = none → Q (.ref l) (upd H l (.tup ys))) ∨ (SqT K H p ys ∧ Q (.ref p) H))) (tCons ta tNil)) env S (.t ds) := fun H0 B σ H s Q q =>
  ha H0 B σ H s _ fun a vs H1 g1 hn ha hl => ⟨a, vs, rfl, .inl ⟨SqL.of ha, fun p hp => q _ _ (g1.trans (same_upd hp)) (.t (.inl (.inl upd_same)) (hl.mono (TK.of (same_upd hp))))⟩⟩
theorem ed_tupleL (ha : ED K ta env S x) (l : Lst S x ds) : ED K (tCB (fun xs H Q => ∃ p ys, xs = [.ref p] ∧ ((SqL K H p ys ∧ ∀ l, H l = none → Q (.ref l) (upd H l (.tup ys))) ∨ (SqT K H p ys ∧ Q (.ref p) H))) (tCons ta tNil)) env S (.t ds) := fun H0 B σ H s Q q =>
  ha H0 B σ H s _ fun v H1 g1 dv => by
    obtain ⟨a, vs, rfl, hs, hl⟩ := l.sq (s.grow g1) dv
    exact ⟨a, vs, rfl, .inl ⟨hs, fun p hp => q _ _ (g1.trans (same_upd hp)) (.t (.inl (.inl upd_same)) (hl.mono (TK.of (same_upd hp))))⟩⟩
theorem ed_tupleT (ha : ED K ta env S (.t ds)) : ED K (tCB (fun xs H Q => ∃ p ys, xs = [.ref p] ∧ ((SqL K H p ys ∧ ∀ l, H l = none → Q (.ref l) (upd H l (.tup ys))) ∨ (SqT K H p ys ∧ Q (.ref p) H))) (tCons ta tNil)) env S (.t ds) := fun H0 B σ H s Q q =>
  ha H0 B σ H s _ fun v H1 g1 dv => by
    obtain ⟨a, vs, rfl, hs, hl⟩ := dv.tt
    exact ⟨a, vs, rfl, .inr ⟨hs, q _ H1 g1 (.t hs hl)⟩⟩
/-- any, all of a new list of truths; sum of whole numbers -/
theorem ed_anyN {bs : List Bool} (ha : EL K ta env S (bs.map fun b => .v (.bl b))) : ED K (tCB (rAny K) (tCons ta tNil)) env S (.v (.bl (bs.any id))) := fun H0 B σ H s Q q =>
  ha H0 B σ H s _ fun a vs H1 g1 hn ha hl => ⟨a, bs, rfl, by rw [← hl.bls_inv]; exact SqL.of ha, q _ H1 g1 .v⟩
theorem ed_allN {bs : List Bool} (ha : EL K ta env S (bs.map fun b => .v (.bl b))) : ED K (tCB (rAll K) (tCons ta tNil)) env S (.v (.bl (bs.all id))) := fun H0 B σ H s Q q =>
  ha H0 B σ H s _ fun a vs H1 g1 hn ha hl => ⟨a, bs, rfl, by rw [← hl.bls_inv]; exact SqL.of ha, q _ H1 g1 .v⟩
theorem ed_sumN {ns : List Int} (ha : EL K ta env S (ns.map fun b => .v (.int b))) : ED K (tCB (rSum K) (tCons ta tNil)) env S (.v (.int ns.sum)) := fun H0 B σ H s Q q =>
  ha H0 B σ H s _ fun a vs H1 g1 hn ha hl => ⟨a, ns, rfl, by rw [← hl.ints_inv]; exact SqL.of ha, q _ H1 g1 .v⟩
theorem rc_abs {i : Int} : RC K (fun xs H Q => ∃ i, xs = [.int i] ∧ Q (.int (if i < 0 then -i else i)) H) [.v (.int i)] (.v (.int (if i < 0 then -i else i))) := fun H vs h Q q => by
  cases h with
  | cons a b => cases b; rw [a.vv]; exact ⟨i, rfl, q _ H (Same.refl H) .v⟩
theorem rc_max2 {i j : Int} : RC K (fun xs H Q => ∃ i j, xs = [.int i, .int j] ∧ Q (.int (if j > i then j else i)) H) [.v (.int i), .v (.int j)] (.v (.int (if j > i then j else i))) := fun H vs h Q q => by
  cases h with
  | cons a b =>
    cases b with
    | cons a' b' => cases b'; rw [a.vv, a'.vv]; exact ⟨i, j, rfl, q _ H (Same.refl H) .v⟩
theorem rc_int1 {i : Int} : RC K (fun xs H Q => (∃ i, xs = [.int i] ∧ Q (.int i) H) ∨ ∃ k, xs = [.bl k] ∧ Q (.int (if k then 1 else 0)) H) [.v (.int i)] (.v (.int i)) := fun H vs h Q q => by
  cases h with
  | cons a b => cases b; rw [a.vv]; exact .inl ⟨i, rfl, q _ H (Same.refl H) .v⟩
theorem rc_int1b {b : Bool} : RC K (fun xs H Q => (∃ i, xs = [.int i] ∧ Q (.int i) H) ∨ ∃ k, xs = [.bl k] ∧ Q (.int (if k then 1 else 0)) H) [.v (.bl b)] (.v (.int (if b then 1 else 0))) := fun H vs h Q q => by
  cases h with
  | cons a c => cases c; rw [a.vv]; exact .inr ⟨b, rfl, q _ H (Same.refl H) .v⟩
/-- lists: xs + ys, of new lists -/
theorem el_catNN (ha : EL K ta env S ds) (hb : EL K tb env S es) (hl : ds.length + es.length ≤ 1000000) : EL K (tOp rCat ta tb) env S (ds ++ es) := fun H0 B σ H s Q q =>
  ha H0 B σ H s _ fun a vs H1 g1 n1 h1 l1 => hb H0 B σ H1 (s.grow g1) _ fun b ws H2 g2 n2 h2 l2 =>
    ⟨a, b, vs, ws, rfl, rfl, g2 _ _ h1, h2, by rw [← l1.length, ← l2.length]; exact sz6 hl, fun p hp =>
      q p _ _ (g1.trans (g2.trans (same_upd hp))) (g1.free (g2.free hp)) upd_same (((l1.mono (TK.of g2)).append l2).mono (TK.of (same_upd hp)))⟩
theorem rep_dat {H : Hp} {vs : List V} (h : DatL K H ds vs) : ∀ n : Nat, DatL K H (List.replicate n ds).flatten (List.replicate n vs).flatten
  | 0 => .nil
  | n + 1 => by rw [List.replicate_succ, List.replicate_succ, List.flatten_cons, List.flatten_cons]; exact h.append (rep_dat h n)
theorem el_repN {k : Int} (ha : EL K ta env S ds) (hb : ED K tb env S (.v (.int k))) (h0 : 0 ≤ k) (h1 : k < 1000000) (hl : ds.length * k.toNat ≤ 1000000) : EL K (tOp rRep ta tb) env S (List.replicate k.toNat ds).flatten := fun H0 B σ H s Q q =>
  ha H0 B σ H s _ fun a vs H1 g1 n1 p1 l1 => hb H0 B σ H1 (s.grow g1) _ fun w H2 g2 dw =>
    ⟨a, k, vs, rfl, dw.vv, g2 _ _ p1, by omega, by omega, by rw [← l1.length]; exact sz6 hl, fun p hp => q p _ _ (g1.trans (g2.trans (same_upd hp))) (g1.free (g2.free hp)) upd_same ((rep_dat (l1.mono (TK.of g2)) _).mono (TK.of (same_upd hp)))⟩
end
end DL
namespace DL
open PySem L2
section
variable {K : PySem.W.Frag} {E E' : XK} {Xs : XP} {env env' : Env} {S S' : Sto} {ta tb te tx : TE} {t u : TT} {tl : TA} {x y z d e : D} {r : R2} {ds es : List D} {O : Out} {g : TG} {gs : TGs} {a b c : TS}
variable {P : D → Sto → Prop}
theorem ev_d (h : ED K te env S d) (p : P d S) : EvE K E Xs te env S P := fun H0 B σ H G s Q q => h H0 B σ H s _ fun v H1 g1 dv => q d S v H1 (TK.of g1) (s.grow g1) dv p
theorem ev_l (h : EL K te env S ds) (p : ∀ x, P (.v x) ((x, .l ds) :: S)) : EvE K E Xs te env S P := fun H0 B σ H G s Q q => h H0 B σ H s _ fun a vs H1 g1 hn ha hl => q _ _ _ H1 (TK.of g1) (s.newL g1 hn ha hl) .v (p _)
theorem ev_mono {P' : D → Sto → Prop} (h : EvE K E Xs te env S P) (m : ∀ d S', P d S' → P' d S') : EvE K E Xs te env S P' := fun H0 B σ H G s Q q => h H0 B σ H G s Q fun d S' v H' k s' dv p => q d S' v H' k s' dv (m d S' p)
theorem ev_op (ha : EvE K E Xs ta env S fun x S1 => EvE K E Xs tb env S1 fun y S2 => ∃ z, RD K r x y z ∧ P z S2) : EvE K E Xs (tOp r ta tb) env S P := fun H0 B σ H G s Q q =>
  ha H0 B σ H G s _ fun x S1 v H1 k1 s1 dv p1 => p1 H0 B σ H1 G s1 _ fun y S2 w H2 k2 s2 dw ⟨z, hr, p2⟩ => hr H2 v w (dv.mono k2) dw Q fun u H3 g3 du => q z S2 u H3 (k1.trans (k2.trans (TK.of g3))) (s2.grow g3) du p2
theorem ev_cb {r : List V → Hp → VK → Prop} (ha : EvA K E Xs tl env S fun ds S1 => ∃ z, RC K r ds z ∧ P z S1) : EvE K E Xs (tCB r tl) env S P := fun H0 B σ H G s Q q =>
  ha H0 B σ H G s _ fun ds S1 vs H1 k1 s1 dv ⟨z, hr, p⟩ => hr H1 vs dv Q fun u H3 g3 du => q z S1 u H3 (k1.trans (TK.of g3)) (s1.grow g3) du p
theorem eva_nil {P : List D → Sto → Prop} (p : P [] S) : EvA K E Xs tNil env S P := fun H0 B σ H G s Q q => q [] S [] H (TK.refl H) s .nil p
theorem eva_cons {P : List D → Sto → Prop} (h : EvE K E Xs te env S fun d S1 => EvA K E Xs tl env S1 fun ds S2 => P (d :: ds) S2) : EvA K E Xs (tCons te tl) env S P := fun H0 B σ H G s Q q =>
  h H0 B σ H G s _ fun d S1 v H1 k1 s1 dv p1 => p1 H0 B σ H1 G s1 _ fun ds S2 vs H2 k2 s2 dvs p2 => q (d :: ds) S2 (v :: vs) H2 (k1.trans k2) s2 (.cons (dv.mono k2) dvs) p2
theorem eva_d {P : List D → Sto → Prop} (h : EA K tl env S ds) (p : P ds S) : EvA K E Xs tl env S P := fun H0 B σ H G s Q q => h H0 B σ H s _ fun vs H1 g1 dv => q ds S vs H1 (TK.of g1) (s.grow g1) dv p
theorem ev_tup (h : EvA K E Xs tl env S fun ds S1 => ds.length ≤ 1000000 ∧ P (.t ds) S1) : EvE K E Xs (tTup tl) env S P := fun H0 B σ H G s Q q =>
  h H0 B σ H G s _ fun ds S1 vs H1 k1 s1 dvs ⟨hl, p⟩ => ⟨by rw [← dvs.length]; exact sz6 hl, fun a hp => q _ S1 _ _ (k1.trans (TK.of (same_upd hp))) (s1.grow (same_upd hp)) (.t (.inl (.inl upd_same)) (dvs.mono (TK.of (same_upd hp)))) p⟩
theorem ev_lst (h : EvA K E Xs tl env S fun ds S1 => ds.length ≤ 1000000 ∧ ∀ x, P (.v x) ((x, .l ds) :: S1)) : EvE K E Xs (tLst tl) env S P := fun H0 B σ H G s Q q =>
  h H0 B σ H G s _ fun ds S1 vs H1 k1 s1 dvs ⟨hl, p⟩ => ⟨by rw [← dvs.length]; exact sz6 hl, fun a hp => q _ _ _ _ (k1.trans (TK.of (same_upd hp))) (s1.newL (same_upd hp) hp upd_same (dvs.mono (TK.of (same_upd hp)))) .v (p _)⟩
/-- a call that may change the part S1 of the store: S is S1 ++ F -/
theorem good_sub {H0 H : Hp} {B C : List Addr} {σ : St} (G : Good K E H0 B Xs) (s : Stt K H0 B env S σ H) (h : ∀ a ∈ C, H0 a = none ∨ a ∈ B) : Good K E H C Xs := fun A od H' fs sb tk xd xs =>
  G A od H' fs (fun a o nb e => sb a o (fun hc => (h a hc).elim (fun z => by rw [z] at e; cases e) nb) (s.same a o nb e)) (s.tk.trans tk) xd xs
theorem Stt.call {H0 H H' : Hp} {B : List Addr} {σ : St} {S1 F S' : Sto} {f1 fF fps' : List (List Addr)} (s : Stt K H0 B env (S1 ++ F) σ H) (o1 : StoOk K H S1 f1) (oF : StoOk K H F fF) (nd : (f1 ++ fF).flatten.Nodup) (fr : ∀ a ∈ (f1 ++ fF).flatten, H0 a = none ∨ a ∈ B)
    (tk : TK H H') (sb : SameBut f1.flatten H H') (so : StoOk K H' S' fps') (nd' : fps'.flatten.Nodup) (fr' : ∀ a ∈ fps'.flatten, H a = none ∨ a ∈ f1.flatten) : Stt K H0 B env (S' ++ F) σ H' := by
  rw [List.flatten_append] at nd fr
  obtain ⟨n1, n2, n3⟩ := List.nodup_append.mp nd
  have liveF := oF.live
  refine ⟨s.len, fun i d e => ?_, ⟨fps' ++ fF, so.append (oF.mono tk fun a ha => ?_), ?_, fun a ha => ?_⟩, fun a o nb e => ?_, s.tk.trans tk⟩
  · obtain ⟨y, hy, dy⟩ := s.env i d e
    exact ⟨y, hy, dy.mono tk⟩
  · obtain ⟨o, ho, _⟩ := liveF a ha
    rw [ho]
    exact sb a o (fun hb => n3 a hb a ha rfl) ho
  · rw [List.flatten_append, List.nodup_append]
    refine ⟨nd', n2, fun a ha b hb e => ?_⟩
    subst e
    rcases fr' a ha with z | z
    · obtain ⟨o, ho, _⟩ := liveF a hb
      rw [z] at ho; cases ho
    · exact n3 a z a hb rfl
  · rw [List.flatten_append, List.mem_append] at ha
    rcases ha with ha | ha
    · rcases fr' a ha with z | z
      · cases q : H0 a with
        | none => exact .inl rfl
        | some o =>
          refine .inr (Classical.byContradiction fun nb => ?_)
          have := s.same a o nb q
          rw [z] at this; cases this
      · exact fr a (List.mem_append_left _ z)
    · exact fr a (List.mem_append_right _ ha)
  · refine sb a o (fun ha => ?_) (s.same a o nb e)
    rcases fr a (List.mem_append_left _ ha) with z | z
    · rw [z] at e; cases e
    · exact nb z
/-- a call: it is lent S1, the rest F stays -/
theorem ev_callP {Ph : Spec} {dvs : List V} (hd : ∀ H, DatL K H es dvs) (ha : EvA K E Xs tl env S fun ds S0 => ∃ S1 F, S0 = S1 ++ F ∧ Ph (ds ++ es) S1 (fun d' S' => P d' (S' ++ F)) Xs) : EvE K E Xs (tCall (spD K Ph) dvs E tl) env S P := fun H0 B σ H G s Q q =>
  ha H0 B σ H G s _ fun ds S0 vs H1 k1 s1 dv ⟨S1, F, e, h⟩ => by
    subst e
    obtain ⟨fps, h1, h2, h3⟩ := id s1.sto
    obtain ⟨f1, fF, rfl, o1, oF⟩ := h1.split
    refine ⟨ds ++ es, S1, f1, _, _, dv.append (hd H1), o1, ?_, h, fun d' S' v H' fps' tk sb so nd fr dd rr => ?_, good_sub G s1 fun a ha => h3 a (by rw [List.flatten_append]; exact List.mem_append_left _ ha)⟩
    · rw [List.flatten_append] at h2
      exact (List.nodup_append.mp h2).1
    · exact q d' (S' ++ F) v H' (k1.trans tk) (Stt.call s1 o1 oF h2 h3 tk sb so nd fr) dd rr
theorem ev_call {Ph : Spec} (ha : EvA K E Xs tl env S fun ds S0 => ∃ S1 F, S0 = S1 ++ F ∧ Ph ds S1 (fun d' S' => P d' (S' ++ F)) Xs) : EvE K E Xs (tCall (spD K Ph) [] E tl) env S P := ev_callP (es := []) (fun _ => .nil) (by
  refine fun H0 B σ H G s Q q => ha H0 B σ H G s Q fun ds S0 vs H' tk s' dv ⟨S1, F, e, h⟩ => q ds S0 vs H' tk s' dv ⟨S1, F, e, by rw [List.append_nil]; exact h⟩)
/-- .. of a def that raises nothing, with another wish -/
theorem ev_call0 {Ph : Spec} (ha : EvA K E Xs tl env S fun ds S0 => ∃ S1 F, S0 = S1 ++ F ∧ Ph ds S1 (fun d' S' => P d' (S' ++ F)) XF) : EvE K E Xs (tCall (spD K Ph) [] E' tl) env S P := fun H0 B σ H G s Q q =>
  ha H0 B σ H G s _ fun ds S0 vs H1 k1 s1 dv ⟨S1, F, e, h⟩ => by
    subst e
    obtain ⟨fps, h1, h2, h3⟩ := id s1.sto
    obtain ⟨f1, fF, rfl, o1, oF⟩ := h1.split
    refine ⟨ds, S1, f1, _, _, by rw [List.append_nil]; exact dv, o1, ?_, h, fun d' S' v H' fps' tk sb so nd fr dd rr => ?_, good0⟩
    · rw [List.flatten_append] at h2
      exact (List.nodup_append.mp h2).1
    · exact q d' (S' ++ F) v H' (k1.trans tk) (Stt.call s1 o1 oF h2 h3 tk sb so nd fr) dd rr
theorem evt_t {b : Bool} {P : Bool → Sto → Prop} (h : ET K t env S b) (p : P b S) : EvT K E Xs t env S P := fun H0 B σ H G s Q q => h H0 B σ H s _ fun H1 g1 => q b S H1 (TK.of g1) (s.grow g1) p
theorem evt_test {P : Bool → Sto → Prop} (h : EvE K E Xs te env S fun d S' => ∃ b, d = .v (.bl b) ∧ P b S') : EvT K E Xs (tTest te) env S P := fun H0 B σ H G s Q q => h H0 B σ H G s _ fun d S' v H' k s' dv ⟨b, e, p⟩ => by
  subst e
  exact ⟨b, dv.vv, q b S' H' k s' p⟩
theorem evt_B {P : Bool → Sto → Prop} (h : EvE K E Xs te env S fun d S' => ∃ b, d = .v (.bl b) ∧ P b S') : EvT K E Xs (tB te) env S P := fun H0 B σ H G s Q q => h H0 B σ H G s _ fun d S' v H' k s' dv ⟨b, e, p⟩ => by
  subst e
  exact ⟨b, dv.vv, q b S' H' k s' p⟩
theorem evt_not {P : Bool → Sto → Prop} (h : EvT K E Xs t env S fun b S' => P (!b) S') : EvT K E Xs (tNot t) env S P := fun H0 B σ H G s Q q => h H0 B σ H G s _ fun b S' H' k s' p => q (!b) S' H' k s' p
theorem evt_and {P : Bool → Sto → Prop} (h : EvT K E Xs t env S fun b S' => if b = true then EvT K E Xs u env S' P else P false S') : EvT K E Xs (tAnd t u) env S P := fun H0 B σ H G s Q q => h H0 B σ H G s _ fun b S' H' k s' p => by
  cases b with
  | true => exact p H0 B σ H' G s' Q fun c S2 H2 k2 s2 p2 => q c S2 H2 (k.trans k2) s2 p2
  | false => exact q false S' H' k s' p
theorem evt_or {P : Bool → Sto → Prop} (h : EvT K E Xs t env S fun b S' => if b = true then P true S' else EvT K E Xs u env S' P) : EvT K E Xs (tOr t u) env S P := fun H0 B σ H G s Q q => h H0 B σ H G s _ fun b S' H' k s' p => by
  cases b with
  | false => exact p H0 B σ H' G s' Q fun c S2 H2 k2 s2 p2 => q c S2 H2 (k.trans k2) s2 p2
  | true => exact q true S' H' k s' p
theorem eg_name {i : Nat} : EvG K (gName i) env d (env.set i (some d)) := fun H0 B S σ H v s dv Q q => q _ (s.put dv)
theorem egs_nil : EvGs K gNil env [] env := fun H0 B S σ H vs s dv Q q => by cases dv; exact ⟨rfl, q _ s⟩
theorem egs_cons {env1 env2 : Env} (h1 : EvG K g env d env1) (h2 : EvGs K gs env1 ds env2) : EvGs K (gCons g gs) env (d :: ds) env2 := fun H0 B S σ H vs s dv Q q => by
  cases dv with
  | cons a b => exact ⟨_, _, rfl, h1 H0 B S σ H _ s a _ fun σ1 s1 => h2 H0 B S σ1 H _ s1 b Q q⟩
theorem eg_tup {n : Nat} (h : EvGs K gs env ds env') (hl : ds.length = n := by rfl) : EvG K (gTup K n gs) env (.t ds) env' := fun H0 B S σ H v s dv Q q => by
  obtain ⟨a, vs, rfl, hs, l⟩ := dv.tt
  exact ⟨a, vs, rfl, hs, by rw [← l.length]; exact hl, h H0 B S σ H vs s l Q q⟩
theorem s_seq (h : EvS K E Xs a env S { O with nx := fun env' S' => EvS K E Xs b env' S' O }) : EvS K E Xs (tSeq a b) env S O := fun H0 B σ H G s Z n r k c =>
  h H0 B σ H G s _ (fun env' S' σ' H' s' p => p H0 B σ' H' G s' Z n r k c) r k c
theorem s_next (h : O.nx env S) : EvS K E Xs tNext env S O := fun H0 B σ H G s Z n r k c => n env S σ H s h
theorem s_mono {O' : Out} (h : EvS K E Xs a env S O) (m : ∀ e s, O.nx e s → O'.nx e s) (m2 : ∀ d s, O.rt d s → O'.rt d s) (m3 : ∀ e s, O.bk e s → O'.bk e s) (m4 : ∀ e s, O.ct e s → O'.ct e s) : EvS K E Xs a env S O' := fun H0 B σ H G s Z n r k c =>
  h H0 B σ H G s Z (fun e S' σ' H' s' p => n e S' σ' H' s' (m _ _ p)) (fun d S' v e σ' H' s' dv p => r d S' v e σ' H' s' dv (m2 _ _ p)) (fun e S' σ' H' s' p => k e S' σ' H' s' (m3 _ _ p)) (fun e S' σ' H' s' p => c e S' σ' H' s' (m4 _ _ p))
theorem s_asgE (h : EvE K E Xs te env S fun d S' => ∃ env', EvG K g env d env' ∧ O.nx env' S') : EvS K E Xs (tAsg te g) env S O := fun H0 B σ H G s Z n r k c =>
  h H0 B σ H G s _ fun d S' v H' _ s' dv ⟨env', hg, p⟩ => hg H0 B S' σ H' v s' dv _ fun σ' s2 => n env' S' σ' H' s2 p
theorem s_asg (h : ED K te env S d) (hg : EvG K g env d env') (p : O.nx env' S) : EvS K E Xs (tAsg te g) env S O := s_asgE (ev_d h ⟨env', hg, p⟩)
theorem s_set {i : Nat} (h : ED K te env S d) (p : O.nx (env.set i (some d)) S) : EvS K E Xs (tAsg te (gName i)) env S O := s_asg h eg_name p
theorem s_setE {i : Nat} (h : EvE K E Xs te env S fun d S' => O.nx (env.set i (some d)) S') : EvS K E Xs (tAsg te (gName i)) env S O := s_asgE (ev_mono h fun d S' p => ⟨_, eg_name, p⟩)
theorem s_setL {i : Nat} (h : EL K te env S ds) (p : ∀ x, O.nx (env.set i (some (.v x))) ((x, .l ds) :: S)) : EvS K E Xs (tAsg te (gName i)) env S O := s_setE (ev_l h p)
theorem s_par {i j : Nat} (h : EA K tl env S [d, e]) (p : O.nx ((env.set i (some d)).set j (some e)) S) : EvS K E Xs (tPar i j tl) env S O := fun H0 B σ H G s Z n r k c =>
  h H0 B σ H s _ fun vs H1 g1 dv => by
    cases dv with
    | cons a b =>
      cases b with
      | cons a' b' =>
        cases b'
        exact ⟨_, _, rfl, n _ S _ H1 (((s.grow g1).put a).put a') p⟩
theorem s_retE (h : EvE K E Xs te env S fun d S' => O.rt d S') : EvS K E Xs (tRet te) env S O := fun H0 B σ H G s Z n r k c =>
  h H0 B σ H G s _ fun d S' v H' _ s' dv p => r d S' v env σ H' s' dv p
theorem s_ret (h : ED K te env S d) (p : O.rt d S) : EvS K E Xs (tRet te) env S O := s_retE (ev_d h p)
theorem s_retL (h : EL K te env S ds) (p : ∀ x, O.rt (.v x) ((x, .l ds) :: S)) : EvS K E Xs (tRet te) env S O := s_retE (ev_l h p)
theorem s_retN (p : O.rt (.v .non) S) : EvS K E Xs tRetN env S O := fun H0 B σ H G s Z n r k c => r _ S _ env σ H s .v p
theorem s_ifE (h : EvT K E Xs t env S fun b S' => if b = true then EvS K E Xs a env S' O else EvS K E Xs c env S' O) : EvS K E Xs (tIfS t a c) env S O := fun H0 B σ H G s Z n r k q =>
  h H0 B σ H G s _ fun b S' H' _ s' p => by
    cases b with
    | true => exact p H0 B σ H' G s' Z n r k q
    | false => exact p H0 B σ H' G s' Z n r k q
theorem s_if {b : Bool} (h : ET K t env S b) (h1 : b = true → EvS K E Xs a env S O) (h2 : b = false → EvS K E Xs c env S O) : EvS K E Xs (tIfS t a c) env S O := s_ifE (evt_t h (by
  cases b with
  | true => exact h1 rfl
  | false => exact h2 rfl))
theorem s_dropE (h : EvE K E Xs te env S fun d S' => O.nx env S') : EvS K E Xs (tDrop te) env S O := fun H0 B σ H G s Z n r k c =>
  h H0 B σ H G s _ fun d S' v H' _ s' dv p => n env S' σ H' s' p
theorem s_break (h : O.bk env S) : EvS K E Xs tBreak env S O := fun H0 B σ H G s Z n r k c => k env S σ H s h
theorem s_cont (h : O.ct env S) : EvS K E Xs tCont env S O := fun H0 B σ H G s Z n r k c => c env S σ H s h
theorem ev_append {p : Addr} (ha : ED K ta env S (.v (.ref p))) (h : EvE K E Xs te env S fun d S' => ∃ (k : Nat) (ds : List D), S'[k]? = some (.ref p, .l ds) ∧ ds.length < 1000000 ∧ P (.v .non) (S'.set k (.ref p, .l (ds ++ [d])))) (hk : ∃ (k : Nat) (ds : List D), S[k]? = some (.ref p, .l ds)) :
    EvE K E Xs (tBM K "list" rAppend ta (tCons te tNil)) env S P := fun H0 B σ H G s Q q =>
  ha H0 B σ H s _ fun v H1 g1 dv => by
    obtain ⟨k0, ds0, hk0⟩ := hk
    obtain ⟨a0, vs0, e0, h0, _⟩ := (s.grow g1).lst hk0
    cases e0
    obtain rfl := dv.vv
    refine ⟨.inl ⟨rfl, vs0, SqL.of h0⟩, h H0 B σ H1 G (s.grow g1) _ fun d S' w H2 k2 s2 dw ⟨k, ds, hk, hl, pp⟩ => ?_⟩
    obtain ⟨a, vs, e, ha, hd, up⟩ := s2.mutL (es := ds ++ [d]) hk
    cases e
    have := up (vs ++ [w]) (hd.append (.cons dw .nil))
    exact ⟨p, vs, w, rfl, rfl, ha, by rw [← hd.length]; exact sz6l hl, q _ _ _ _ ((TK.of g1).trans (k2.trans this.1)) this.2 .v pp⟩
end
end DL
namespace DL
open PySem L2 RZ
section
variable {K : PySem.W.Frag} {E E' : XK} {Xs : XP} {env env' : Env} {S S' : Sto} {ta tb te tx : TE} {t u : TT} {tl : TA} {x y z d e : D} {r : R2} {ds es : List D} {O : Out} {g : TG} {gs : TGs} {a b c : TS} {wi : TI}
variable {P : List D → Sto → (Sto → Prop) → Prop}
theorem ei_tupE (h : EvE K E Xs te env S fun d S1 => ∃ ds, d = .t ds ∧ P ds S1 fun _ => True) : EvI K E Xs (iTup K te) env S P := fun H0 B σ H G s R q =>
  h H0 B σ H G s _ fun d S1 v H1 k s1 dv ⟨ds, e, p⟩ => by
    subst e
    obtain ⟨a, vs, rfl, hs, hl⟩ := dv.tt
    refine ⟨a, rfl, ⟨vs, hs⟩, q ds S1 _ (Itt K a) (fun H => SqT K H a vs) (YAt vs) H1 p s1 k (by rw [hl.length]; exact walk_tup) (fun env' S' σ' H' s' k' _ => k'.sq hs) fun i Ha x Hb _ y _ k' => ?_⟩
    obtain ⟨rfl, hx⟩ := y
    obtain ⟨d, hd, dd⟩ := (hl.mono k').got hx
    exact ⟨Same.refl _, d, hd, dd⟩
theorem ei_tup (h : ED K te env S (.t ds)) (p : P ds S fun _ => True) : EvI K E Xs (iTup K te) env S P := ei_tupE (ev_d h ⟨ds, rfl, p⟩)
/-- a list as it stands, by data -/
def LstAt (K : PySem.W.Frag) (a : Addr) (ds : List D) (H : Hp) : Prop := ∃ vs, SqL K H a vs ∧ DatL K H ds vs
theorem walk_lst {a : Addr} : Walk (Itl K a) ds.length (LstAt K a ds) (fun i H x H' => H' = H ∧ ∃ d, ds[i]? = some d ∧ Dat K H d x) :=
  ⟨fun i H hi ⟨vs, hs, hl⟩ => ⟨vs, vs[i]'(by rw [← hl.length]; exact hi), hs, by simp [← hl.length, hi]⟩, fun H ⟨vs, hs, hl⟩ => ⟨vs, hs, by rw [hl.length]; exact Nat.le_refl _⟩, fun i H x H' hi ⟨vs, hs, hl⟩ y => by
    obtain ⟨rfl, y⟩ := y
    obtain ⟨d, hd, dd⟩ := hl.got (y vs hs)
    exact ⟨rfl, d, hd, dd⟩⟩
theorem Lst.at {H0 H : Hp} {B : List Addr} {σ : St} {p : Addr} (l : Lst S d ds) (s : Stt K H0 B env S σ H) (h : Dat K H d (.ref p)) : LstAt K p ds H := by
  obtain ⟨a, vs, e, hs, hl⟩ := l.sq s h
  cases e
  exact ⟨vs, hs, hl⟩
theorem Lst.ref {H0 H : Hp} {B : List Addr} {σ : St} {v : V} (l : Lst S d ds) (s : Stt K H0 B env S σ H) (h : Dat K H d v) : ∃ p, v = .ref p := by
  obtain ⟨a, vs, e, hs, hl⟩ := l.sq s h
  exact ⟨a, e⟩
theorem ei_lstE (h : EvE K E Xs te env S fun d S1 => ∃ ds, Lst S1 d ds ∧ P ds S1 fun S' => Lst S' d ds) : EvI K E Xs (iList K te) env S P := fun H0 B σ H G s R q =>
  h H0 B σ H G s _ fun d S1 v H1 k s1 dv ⟨ds, l, p⟩ => by
    obtain ⟨a, rfl⟩ := l.ref s1 dv
    obtain ⟨vs, hs, hl⟩ := l.at s1 dv
    refine ⟨a, rfl, ⟨vs, hs⟩, q ds S1 _ (Itl K a) (LstAt K a ds) _ H1 p s1 k walk_lst (fun env' S' σ' H' s' k' l' => l'.at s' (dv.mono k')) fun i Ha x Hb _ y _ _ => ?_⟩
    obtain ⟨rfl, hx⟩ := y
    exact ⟨Same.refl _, hx⟩
theorem ei_lst (h : ED K te env S d) (l : Lst S d ds) (p : P ds S fun S' => Lst S' d ds) : EvI K E Xs (iList K te) env S P := ei_lstE (ev_d h ⟨ds, l, p⟩)
theorem ei_new (h : EL K te env S ds) (p : ∀ x, P ds ((x, .l ds) :: S) fun S' => Lst S' (.v x) ds) : EvI K E Xs (iList K te) env S P := ei_lstE (ev_l h fun x => ⟨ds, .inr ⟨0, x, rfl, rfl⟩, p x⟩)
def rngD (lo : Int) (n : Nat) : List D := (List.range n).map fun i => .v (.int (lo + (i : Nat)))
theorem rngD_len {lo : Int} {n : Nat} : (rngD lo n).length = n := by simp [rngD]
theorem rngD_get {lo : Int} {n i : Nat} (h : i < n) : (rngD lo n)[i]? = some (.v (.int (lo + (i : Nat)))) := by simp [rngD, h]
theorem ei_rng1 {n : Int} (h : EA K tl env S [.v (.int n)]) (hn : -1000000 ≤ n ∧ n ≤ 1000000) (p : P (rngD 0 n.toNat) S fun _ => True) : EvI K E Xs (iRng1 tl) env S P := fun H0 B σ H G s R q =>
  h H0 B σ H s _ fun vs H1 g1 dv => by
    cases dv with
    | cons a b =>
      cases b
      refine ⟨n, by rw [a.vv], by omega, by omega, q _ S _ (Itr 0 n.toNat) (fun _ => True) _ H1 p (s.grow g1) (TK.of g1) (by rw [rngD_len]; exact walk_range) (fun _ _ _ _ _ _ _ => trivial) fun i Ha x Hb hi y _ _ => ?_⟩
      obtain ⟨rfl, rfl⟩ := y
      rw [rngD_len] at hi
      exact ⟨Same.refl _, _, rngD_get hi, .v⟩
theorem ei_rng2 {m n : Int} (h : EA K tl env S [.v (.int m), .v (.int n)]) (hn : (-1000000 ≤ m ∧ m ≤ 1000000) ∧ -1000000 ≤ n ∧ n ≤ 1000000) (p : P (rngD m (n - m).toNat) S fun _ => True) : EvI K E Xs (iRng2 tl) env S P := fun H0 B σ H G s R q =>
  h H0 B σ H s _ fun vs H1 g1 dv => by
    cases dv with
    | cons a b =>
      cases b with
      | cons a' b =>
      cases b
      refine ⟨m, n, by rw [a.vv, a'.vv], by omega, q _ S _ (Itr m (n - m).toNat) (fun _ => True) _ H1 p (s.grow g1) (TK.of g1) (by rw [rngD_len]; exact walk_range) (fun _ _ _ _ _ _ _ => trivial) fun i Ha x Hb hi y _ _ => ?_⟩
      obtain ⟨rfl, rfl⟩ := y
      rw [rngD_len] at hi
      exact ⟨Same.refl _, _, rngD_get hi, .v⟩
def zipD (ds es : List D) : List D := (ds.zip es).map fun p => .t [p.1, p.2]
theorem zipD_len {ds es : List D} : (zipD ds es).length = min ds.length es.length := by simp [zipD]
theorem zipD_get {ds es : List D} {i : Nat} {x y : D} (h : ds[i]? = some x) (h' : es[i]? = some y) : (zipD ds es)[i]? = some (.t [x, y]) := by
  unfold zipD
  rw [List.getElem?_map, (List.getElem?_zip_eq_some (z := (x, y))).mpr ⟨h, h'⟩]
  rfl
theorem walk_zipT {n : Nat} {a b : Addr} {xs ys : List V} (hn : n = min xs.length ys.length) : Walk (ItzT K a b) n (fun H => SqT K H a xs ∧ SqT K H b ys) (YPair (fun i => xs[i]?) (fun i => ys[i]?)) := by
  subst hn
  refine ⟨fun i _ hi q => ?_, fun _ q => ⟨xs, ys, q.1, q.2, by omega⟩, fun i H v H' _ q y => ?_⟩
  · have h1 : i < xs.length := by omega
    have h2 : i < ys.length := by omega
    exact ⟨xs, ys, xs[i], ys[i], q.1, q.2, by simp [h1], by simp [h2]⟩
  · obtain ⟨T, x, z, h1, h2, h3, h4, h5⟩ := y
    exact ⟨T, x, z, h1, h2, h3, h4 xs q.1, h5 ys q.2⟩
theorem ei_zipT (h : EA K tl env S [.t ds, .t es]) (p : P (zipD ds es) S fun _ => True) : EvI K E Xs (iZipA K tl) env S P := fun H0 B σ H G s R q =>
  h H0 B σ H s _ fun vs H1 g1 dv => by
    cases dv with
    | cons a b =>
      cases b with
      | cons a' b =>
        cases b
        obtain ⟨p1, xs, rfl, s1, l1⟩ := a.tt
        obtain ⟨p2, ys, rfl, s2, l2⟩ := a'.tt
        refine ⟨p1, p2, xs, ys, rfl, .inr ⟨s1, s2, q _ S _ (ItzT K p1 p2) _ _ H1 p (s.grow g1) (TK.of g1) (walk_zipT (xs := xs) (ys := ys) (by rw [zipD_len, l1.length, l2.length])) (fun _ _ _ _ _ k _ => ⟨k.sq s1, k.sq s2⟩) fun i Ha x Hb hi y _ k => ?_⟩⟩
        obtain ⟨T, v, w, rfl, hT, rfl, hx, hy⟩ := y
        obtain ⟨d1, e1, dd1⟩ := (l1.mono k).got hx
        obtain ⟨d2, e2, dd2⟩ := (l2.mono k).got hy
        exact ⟨same_upd hT, _, zipD_get e1 e2, .t (.inl (.inl upd_same)) (.cons (dd1.mono (TK.of (same_upd hT))) (.cons (dd2.mono (TK.of (same_upd hT))) .nil))⟩
theorem walk_zipL {a b : Addr} : Walk (Itz K a b) (zipD ds es).length (fun H => LstAt K a ds H ∧ LstAt K b es H) (fun i H x H' => ∃ T v w, x = .ref T ∧ H T = none ∧ H' = upd H T (.tup [v, w]) ∧ (∃ d, ds[i]? = some d ∧ Dat K H d v) ∧ ∃ d, es[i]? = some d ∧ Dat K H d w) := by
  refine ⟨fun i H hi ⟨⟨xs, q1, l1⟩, ⟨ys, q2, l2⟩⟩ => ?_, fun H ⟨⟨xs, q1, l1⟩, ⟨ys, q2, l2⟩⟩ => ⟨xs, ys, q1, q2, ?_⟩, fun i H v H' hi ⟨⟨xs, q1, l1⟩, ⟨ys, q2, l2⟩⟩ y => ?_⟩
  · rw [zipD_len, l1.length, l2.length] at hi
    have h1 : i < xs.length := by omega
    have h2 : i < ys.length := by omega
    exact ⟨xs, ys, xs[i], ys[i], q1, q2, by simp [h1], by simp [h2]⟩
  · rw [zipD_len, l1.length, l2.length]; omega
  · obtain ⟨T, x, z, h1, h2, h3, h4, h5⟩ := y
    exact ⟨T, x, z, h1, h2, h3, l1.got (h4 xs q1), l2.got (h5 ys q2)⟩
/-- zip of two lists -/
theorem ei_zipL (h : EvA K E Xs tl env S fun as S1 => ∃ x y ds es, as = [x, y] ∧ Lst S1 x ds ∧ Lst S1 y es ∧ P (zipD ds es) S1 fun S' => Lst S' x ds ∧ Lst S' y es) : EvI K E Xs (iZipA K tl) env S P := fun H0 B σ H G s R q =>
  h H0 B σ H G s _ fun as S1 vs H1 k s1 dv ⟨x, y, ds, es, e, l1, l2, p⟩ => by
    subst e
    cases dv with
    | cons a b =>
      cases b with
      | cons a' b =>
        cases b
        obtain ⟨p1, rfl⟩ := l1.ref s1 a
        obtain ⟨p2, rfl⟩ := l2.ref s1 a'
        obtain ⟨xs, q1, m1⟩ := l1.at s1 a
        obtain ⟨ys, q2, m2⟩ := l2.at s1 a'
        refine ⟨p1, p2, xs, ys, rfl, .inl ⟨q1, q2, q _ S1 _ (Itz K p1 p2) _ _ H1 p s1 k walk_zipL (fun _ _ _ _ s' k' l' => ⟨l'.1.at s' (a.mono k'), l'.2.at s' (a'.mono k')⟩) fun i Ha x Hb hi y _ k => ?_⟩⟩
        obtain ⟨T, v, w, rfl, hT, rfl, ⟨d1, e1, dd1⟩, ⟨d2, e2, dd2⟩⟩ := y
        exact ⟨same_upd hT, _, zipD_get e1 e2, .t (.inl (.inl upd_same)) (.cons (dd1.mono (TK.of (same_upd hT))) (.cons (dd2.mono (TK.of (same_upd hT))) .nil))⟩
def enumD (ds : List D) : List D := ds.zipIdx.map fun p => .t [.v (.int (p.2 : Nat)), p.1]
theorem enumD_len {ds : List D} : (enumD ds).length = ds.length := by simp [enumD]
theorem enumD_get {ds : List D} {i : Nat} {x : D} (h : ds[i]? = some x) : (enumD ds)[i]? = some (.t [.v (.int (i : Nat)), x]) := by
  unfold enumD
  rw [List.getElem?_map, List.getElem?_zipIdx, h]
  simp
theorem walk_enumL {a : Addr} : Walk (Ite K a) (enumD ds).length (LstAt K a ds) (fun i H x H' => ∃ T w, x = .ref T ∧ H T = none ∧ H' = upd H T (.tup [.int (i : Nat), w]) ∧ ∃ d, ds[i]? = some d ∧ Dat K H d w) := by
  refine ⟨fun i H hi ⟨xs, q1, l1⟩ => ?_, fun H ⟨xs, q1, l1⟩ => ⟨xs, q1, ?_⟩, fun i H v H' hi ⟨xs, q1, l1⟩ y => ?_⟩
  · rw [enumD_len, l1.length] at hi
    exact ⟨xs, xs[i], q1, by simp [hi]⟩
  · rw [enumD_len, l1.length]; exact Nat.le_refl _
  · obtain ⟨T, x, h1, h2, h3, h4⟩ := y
    exact ⟨T, x, h1, h2, h3, l1.got (h4 xs q1)⟩
theorem ei_enumL (h : EvA K E Xs tl env S fun as S1 => ∃ x ds, as = [x] ∧ Lst S1 x ds ∧ P (enumD ds) S1 fun S' => Lst S' x ds) : EvI K E Xs (iEnum K tl) env S P := fun H0 B σ H G s R q =>
  h H0 B σ H G s _ fun as S1 vs H1 k s1 dv ⟨x, ds, e, l1, p⟩ => by
    subst e
    cases dv with
    | cons a b =>
      cases b
      obtain ⟨p1, rfl⟩ := l1.ref s1 a
      obtain ⟨xs, q1, m1⟩ := l1.at s1 a
      refine ⟨p1, xs, rfl, q1, q _ S1 _ (Ite K p1) _ _ H1 p s1 k walk_enumL (fun _ _ _ _ s' k' l' => l'.at s' (a.mono k')) fun i Ha x Hb hi y _ k => ?_⟩
      obtain ⟨T, w, rfl, hT, rfl, ⟨d2, e2, dd2⟩⟩ := y
      exact ⟨same_upd hT, _, enumD_get e2, .t (.inl (.inl upd_same)) (.cons .v (.cons (dd2.mono (TK.of (same_upd hT))) .nil))⟩
/-- the same, with the heap at hand as the ground -/
theorem Stt.rebase {H0 H : Hp} {B : List Addr} {σ : St} (s : Stt K H0 B env S σ H) : ∃ C, Stt K H C env S σ H ∧ (∀ env' S' σ' H', Stt K H C env' S' σ' H' → Stt K H0 B env' S' σ' H') ∧ (∀ E Xs, Good K E H0 B Xs → Good K E H C Xs) := by
  obtain ⟨fps, h1, h2, h3⟩ := id s.sto
  refine ⟨fps.flatten, ⟨s.len, s.env, ⟨fps, h1, h2, fun a ha => .inr ha⟩, SameBut.refl _ _, TK.refl _⟩, fun env' S' σ' H' s' => ?_, fun E Xs G => good_sub G s h3⟩
  obtain ⟨gps, g1, g2, g3⟩ := id s'.sto
  refine ⟨s'.len, s'.env, ⟨gps, g1, g2, fun a ha => ?_⟩, fun a o nb e => ?_, s.tk.trans s'.tk⟩
  · rcases g3 a ha with z | z
    · cases q : H0 a with
      | none => exact .inl rfl
      | some o =>
        refine .inr (Classical.byContradiction fun nb => ?_)
        have := s.same a o nb q
        rw [z] at this; cases this
    · exact h3 a z
  · refine s'.same a o (fun ha => ?_) (s.same a o nb e)
    rcases h3 a ha with z | z
    · rw [z] at e; cases e
    · exact nb z
theorem s_for (h : EvI K E Xs wi env S fun its S1 Kp => ∃ I : Nat → Env → Sto → Prop, I 0 env S1 ∧ (∀ i env' S', i ≤ its.length → I i env' S' → Kp S') ∧
    (∀ i d env' S', its[i]? = some d → I i env' S' → ∃ env2, EvG K g env' d env2 ∧ EvS K E Xs a env2 S' { O with nx := I (i + 1), ct := I (i + 1), bk := O.nx }) ∧ ∀ env' S', I its.length env' S' → O.nx env' S') : EvS K E Xs (tFor wi g a) env S O := fun H0 B σ H G s Z n r k c =>
  h H0 B σ H G s _ fun its S1 Kp J W Y H1 ⟨I, i0, ik, it, ie⟩ s1 tk w gk y => by
    obtain ⟨C, sC, back, gd⟩ := s1.rebase
    have gk' : ∀ env' S' σ' H', Stt K H1 C env' S' σ' H' → Kp S' → W H' := fun env' S' σ' H' s' kp => gk env' S' σ' H' (back _ _ _ _ s') s'.tk kp
    refine for_it w (fun i σ' H' => ∃ env' S', I i env' S' ∧ Stt K H1 C env' S' σ' H') ⟨env, S1, i0, sC⟩ (fun i σ' H' hi ⟨env', S', p, s'⟩ => gk' env' S' σ' H' s' (ik i env' S' hi p)) ?_ fun σ' H' ⟨env', S', p, s'⟩ => n env' S' σ' H' (back _ _ _ _ s') (ie env' S' p)
    rintro i x σ' Ha Hb hi ⟨env', S', p, s'⟩ yy
    obtain ⟨g2, d, hd, dd⟩ := y i Ha x Hb hi yy (gk' env' S' σ' Ha s' (ik i env' S' (Nat.le_of_lt hi) p)) s'.tk
    obtain ⟨env2, hg, hb⟩ := it i d env' S' hd p
    refine hg H1 C S' σ' Hb x (s'.grow g2) dd _ fun σ2 s2 => ?_
    exact hb H1 C σ2 Hb (gd E Xs G) s2 _ (fun e3 S3 σ3 H3 s3 p3 => ⟨e3, S3, p3, s3⟩) (fun d S3 v e3 σ3 H3 s3 dv p3 => r d S3 v e3 σ3 H3 (back _ _ _ _ s3) dv p3) (fun e3 S3 σ3 H3 s3 p3 => n e3 S3 σ3 H3 (back _ _ _ _ s3) p3) fun e3 S3 σ3 H3 s3 p3 => ⟨e3, S3, p3, s3⟩
/-- .. with a part of the store left around -/
theorem Stt.frame {H0 H : Hp} {B : List Addr} {σ : St} {F : Sto} (s : Stt K H0 B env (F ++ S) σ H) : ∃ C, Stt K H C env S σ H ∧ (∀ env' S' σ' H', Stt K H C env' S' σ' H' → Stt K H0 B env' (F ++ S') σ' H') ∧ (∀ E Xs, Good K E H0 B Xs → Good K E H C Xs) := by
  obtain ⟨fps, h1, h2, h3⟩ := id s.sto
  obtain ⟨fF, fS, rfl, oF, oS⟩ := h1.split
  rw [List.flatten_append] at h2 h3
  obtain ⟨n1, n2, n3⟩ := List.nodup_append.mp h2
  have h3S : ∀ a ∈ fS.flatten, H0 a = none ∨ a ∈ B := fun a ha => h3 a (List.mem_append_right _ ha)
  refine ⟨fS.flatten, ⟨s.len, s.env, ⟨fS, oS, n2, fun a ha => .inr ha⟩, SameBut.refl _ _, TK.refl _⟩, fun env' S' σ' H' s' => ?_, fun E Xs G => good_sub G s h3S⟩
  obtain ⟨gps, g1, g2, g3⟩ := id s'.sto
  have lF := oF.live
  refine ⟨s'.len, s'.env, ⟨fF ++ gps, (oF.mono s'.tk fun a ha => ?_).append g1, ?_, fun a ha => ?_⟩, fun a o nb e => ?_, s.tk.trans s'.tk⟩
  · obtain ⟨o, ho, _⟩ := lF a ha
    rw [ho]
    exact s'.same a o (fun hb => n3 a ha a hb rfl) ho
  · rw [List.flatten_append, List.nodup_append]
    refine ⟨n1, g2, fun a ha b hb e => ?_⟩
    subst e
    rcases g3 a hb with z | z
    · obtain ⟨o, ho, _⟩ := lF a ha
      rw [z] at ho; cases ho
    · exact n3 a ha a z rfl
  · rw [List.flatten_append, List.mem_append] at ha
    rcases ha with ha | ha
    · exact h3 a (List.mem_append_left _ ha)
    · rcases g3 a ha with z | z
      · cases q : H0 a with
        | none => exact .inl rfl
        | some o =>
          refine .inr (Classical.byContradiction fun nb => ?_)
          have := s.same a o nb q
          rw [z] at this; cases this
      · exact h3S a z
  · refine s'.same a o (fun ha => ?_) (s.same a o nb e)
    rcases h3S a ha with z | z
    · rw [z] at e; cases e
    · exact nb z
/-- while, by a word with a measure -/
theorem s_while {I : Nat → Env → Sto → Prop} {m : Nat} (h0 : I m env S)
    (hs : ∀ m env' S', I m env' S' → EvT K E Xs t env' S' fun b S2 => if b = true then EvS K E Xs a env' S2 { O with nx := fun e3 S3 => ∃ m', m' < m ∧ I m' e3 S3, ct := fun e3 S3 => ∃ m', m' < m ∧ I m' e3 S3, bk := O.nx } else O.nx env' S2) : EvS K E Xs (tWhile t a) env S O := fun H0 B σ H G s Z n r k c => by
  refine ⟨fun m σ' H' => ∃ env' S', I m env' S' ∧ Stt K H0 B env' S' σ' H', ⟨m, env, S, h0, s⟩, ?_⟩
  rintro m σ' H' ⟨env', S', p, s'⟩
  refine hs m env' S' p H0 B σ' H' G s' _ fun b S2 H2 k2 s2 p2 => ?_
  cases b with
  | true =>
    refine ⟨fun σ3 H3 => ∃ e3 S3, (∃ m', m' < m ∧ I m' e3 S3) ∧ Stt K H0 B e3 S3 σ3 H3, fun σ3 H3 ⟨e3, S3, ⟨m', hm, p3⟩, s3⟩ => ⟨m', hm, e3, S3, p3, s3⟩, ?_⟩
    exact p2 H0 B σ' H2 G s2 _ (fun e3 S3 σ3 H3 s3 p3 => ⟨e3, S3, p3, s3⟩) r (fun e3 S3 σ3 H3 s3 p3 => n e3 S3 σ3 H3 s3 p3) fun e3 S3 σ3 H3 s3 p3 => ⟨e3, S3, p3, s3⟩
  | false => exact n env' S2 σ' H2 s2 p2
theorem wipe_get {σ : St} : ∀ (vs : List Nat) (j : Nat), (wipe σ vs)[j]? = if j ∈ vs then (σ[j]?).map (fun _ => none) else σ[j]?
  | [], j => by simp [wipe]
  | v :: vs, j => by
    show ((wipe σ vs).set v none)[j]? = _
    rw [List.getElem?_set]
    have ih := wipe_get (σ := σ) vs j
    by_cases e : v = j
    · subst e
      rw [if_pos rfl, wipe_length, if_pos (List.mem_cons_self)]
      by_cases hl : v < σ.length
      · rw [if_pos hl]; simp [hl]
      · rw [if_neg hl]; simp [hl]
    · rw [if_neg e, ih]
      by_cases m : j ∈ vs
      · rw [if_pos m, if_pos (by simp [m])]
      · rw [if_neg m, if_neg (by simp [m]; exact fun h => e h.symm)]
theorem wipe_set {σ : St} {vs : List Nat} {i : Nat} {o : Option V} (h : i ∈ vs) : wipe (σ.set i o) vs = wipe σ vs := by
  apply List.ext_getElem?
  intro j
  rw [wipe_get, wipe_get]
  by_cases m : j ∈ vs
  · rw [if_pos m, if_pos m, List.getElem?_set]
    by_cases e : i = j
    · subst e
      rw [if_pos rfl]
      by_cases hl : i < σ.length
      · simp [hl]
      · simp [hl]
    · rw [if_neg e]
  · rw [if_neg m, if_neg m, List.getElem?_set_ne (fun e : i = j => m (e ▸ h))]
theorem wipe_wipe {σ : St} {vs : List Nat} : wipe (wipe σ vs) vs = wipe σ vs := by
  apply List.ext_getElem?
  intro j
  rw [wipe_get, wipe_get]
  by_cases m : j ∈ vs
  · rw [if_pos m, if_pos m]; cases σ[j]? <;> rfl
  · rw [if_neg m, if_neg m]
def wipeE (env : Env) : List Nat → Env
  | [] => env
  | v :: vs => (wipeE env vs).set v none
theorem wipeE_len : ∀ vs : List Nat, (wipeE env vs).length = env.length
  | [] => rfl
  | v :: vs => by show ((wipeE env vs).set v none).length = _; rw [List.length_set, wipeE_len vs]
theorem wipeE_get {i : Nat} {d : D} : ∀ {vs : List Nat}, (wipeE env vs)[i]? = some (some d) → i ∉ vs ∧ env[i]? = some (some d)
  | [], h => ⟨by simp, h⟩
  | v :: vs, h => by
    have h : ((wipeE env vs).set v none)[i]? = some (some d) := h
    rw [List.getElem?_set] at h
    by_cases e : v = i
    · rw [if_pos e] at h
      split at h <;> simp at h
    · rw [if_neg e] at h
      obtain ⟨a, b⟩ := wipeE_get (vs := vs) h
      exact ⟨by simp; exact ⟨fun z => e z.symm, a⟩, b⟩
theorem wipe_ok {H0 H : Hp} {B : List Addr} {σ : St} {vs : List Nat} (s : Stt K H0 B env S σ H) : Stt K H0 B (wipeE env vs) S (wipe σ vs) H := by
  refine s.envs (by rw [wipeE_len, wipe_length]; exact s.len) fun i d h => ?_
  obtain ⟨m, h⟩ := wipeE_get h
  obtain ⟨x, hx, dx⟩ := s.env i d h
  exact ⟨x, by rw [wipe_get, if_neg m]; exact hx, dx⟩
/-- a target within a comprehension whose own names are vs -/
def EvGc (K : PySem.W.Frag) (vs : List Nat) (g : TG) (env : Env) (d : D) (env' : Env) : Prop := ∀ H0 B S σ H v, Stt K H0 B env S σ H → Dat K H d v → ∀ Q : St → Hp → Prop, (∀ σ', wipe σ' vs = wipe σ vs → Stt K H0 B env' S σ' H → Q σ' H) → g v σ H Q
def EvGcs (K : PySem.W.Frag) (vs : List Nat) (g : TGs) (env : Env) (ds : List D) (env' : Env) : Prop := ∀ H0 B S σ H xs, Stt K H0 B env S σ H → DatL K H ds xs → ∀ Q : St → Hp → Prop, (∀ σ', wipe σ' vs = wipe σ vs → Stt K H0 B env' S σ' H → Q σ' H) → g xs σ H Q
theorem egc_name {vs : List Nat} {i : Nat} (h : i ∈ vs := by decide) : EvGc K vs (gName i) env d (env.set i (some d)) := fun H0 B S σ H v s dv Q q => q _ (wipe_set h) (s.put dv)
theorem egcs_nil {vs : List Nat} : EvGcs K vs gNil env [] env := fun H0 B S σ H xs s dv Q q => by cases dv; exact ⟨rfl, q _ rfl s⟩
theorem egcs_cons {vs : List Nat} {env1 env2 : Env} (h1 : EvGc K vs g env d env1) (h2 : EvGcs K vs gs env1 ds env2) : EvGcs K vs (gCons g gs) env (d :: ds) env2 := fun H0 B S σ H xs s dv Q q => by
  cases dv with
  | cons a b => exact ⟨_, _, rfl, h1 H0 B S σ H _ s a _ fun σ1 w1 s1 => h2 H0 B S σ1 H _ s1 b Q fun σ2 w2 s2 => q σ2 (w2.trans w1) s2⟩
theorem egc_tup {vs : List Nat} {n : Nat} (h : EvGcs K vs gs env ds env') (hl : ds.length = n := by rfl) : EvGc K vs (gTup K n gs) env (.t ds) env' := fun H0 B S σ H v s dv Q q => by
  obtain ⟨a, xs, rfl, hs, l⟩ := dv.tt
  exact ⟨a, xs, rfl, hs, by rw [← l.length]; exact hl, h H0 B S σ H xs s l Q q⟩
/-- [e for x in xs if c], with a word: I i acc S, acc what is made so far -/
theorem ev_lc {Q0 : D → Sto → Prop} {vs : List Nat} (h : EvI K E Xs wi env S fun its S1 Kp => ∃ I : Nat → List D → Sto → Prop, its.length < 1000000 ∧ I 0 [] S1 ∧ (∀ i acc S', i ≤ its.length → I i acc S' → Kp S' ∧ acc.length ≤ i) ∧
    (∀ i d acc S', its[i]? = some d → I i acc S' → ∃ env2, EvGc K vs g (wipeE env vs) d env2 ∧ EvT K E XF t env2 S' fun b S2 => if b = true then EvE K E XF te env2 S2 fun y S3 => I (i + 1) (acc ++ [y]) S3 else I (i + 1) acc S2) ∧
    ∀ acc S', I its.length acc S' → ∀ x, Q0 (.v x) ((x, .l acc) :: S')) : EvE K E Xs (tLc wi g t te vs) env S Q0 := fun H0 B σ H G s Q q =>
  h H0 B σ H G s _ fun its S1 Kp J W Y H1 ⟨I, hz, i0, ik, it, ie⟩ s1 tk w gk y => fun p hp => by
    -- the new list at p, at the head of the store
    have s2 : Stt K H0 B env ((.ref p, .l []) :: S1) σ (upd H1 p (.lst [])) := s1.newL (same_upd hp) hp upd_same .nil
    have tk2 := tk.trans (TK.of (same_upd (o := .lst []) hp))
    have gk' : ∀ env' S' σ' H', Stt K H0 B env' S' σ' H' → TK H1 H' → Kp S' → W H' := gk
    obtain ⟨C, sC, back, gd⟩ := s2.rebase
    have base : TK H1 (upd H1 p (.lst [])) := TK.of (same_upd hp)
    refine lc_it w (fun i H' => ∃ acc S', I i acc S' ∧ Stt K (upd H1 p (.lst [])) C env ((.ref p, .l acc) :: S') σ H') ⟨[], S1, i0, sC⟩ (fun i H' hi ⟨acc, S', p', s'⟩ => ?_) ?_ fun H' ⟨acc, S', p', s'⟩ => ?_
    · exact gk' _ _ _ _ (Stt.drop (S := [_]) (back _ _ _ _ s')) (base.trans s'.tk) (ik i acc S' hi p').1
    · rintro i x Ha Hb hi ⟨acc, S', p', s'⟩ yy
      obtain ⟨g2, d, hd, dd⟩ := y i Ha x Hb hi yy (gk' _ _ _ _ (Stt.drop (S := [_]) (back _ _ _ _ s')) (base.trans s'.tk) (ik i acc S' (Nat.le_of_lt hi) p').1) (base.trans s'.tk)
      obtain ⟨env2, hg, hb⟩ := it i d acc S' hd p'
      have al := (ik i acc S' (Nat.le_of_lt hi) p').2
      have s3 := wipe_ok (vs := vs) (s'.grow g2)
      refine hg _ C _ (wipe σ vs) Hb x s3 dd _ fun σ2 w2 s4 => ⟨by rw [w2, wipe_wipe], ?_⟩
      -- within the turn the store is S' alone: the list at p is what is around
      obtain ⟨C2, t4, fb, gd2⟩ := Stt.frame (F := [(.ref p, .l acc)]) s4
      have envs : ∀ {Hf : Hp}, TK Hb Hf → ∀ (i : Nat) (d : D), env[i]? = some (some d) → ∃ x, σ[i]? = some (some x) ∧ Dat K Hf d x := fun {Hf} kf i d e => by
        obtain ⟨x, hx, dx⟩ := s'.env i d e
        exact ⟨x, hx, dx.mono ((TK.of g2).trans kf)⟩
      refine hb Hb C2 σ2 Hb good0 t4 _ fun b S2 H5 k5 t5 p5 => ?_
      cases b with
      | true =>
        have p5 : EvE K E XF te env2 S2 fun y S3 => I (i + 1) (acc ++ [y]) S3 := p5
        refine p5 Hb C2 σ2 H5 good0 t5 _ fun yd S3 yv H6 k6 t6 dy p6 => ?_
        obtain ⟨a0, vs0, e0, h0, hd0, up⟩ := (fb _ _ _ _ t6).mutL (k := 0) (es := acc ++ [yd]) rfl
        cases e0
        obtain ⟨kf, sf⟩ := up (vs0 ++ [yv]) (hd0.append (.cons dy .nil))
        exact ⟨vs0, h0, by rw [← hd0.length]; exact sz6l (by omega), acc ++ [yd], S3, p6, sf.envs s'.len (envs (t6.tk.trans kf))⟩
      | false =>
        exact ⟨acc, S2, p5, (fb _ _ _ _ t5).envs s'.len (envs t5.tk)⟩
    · have s5 := back _ _ _ _ s'
      exact q _ _ _ H' (tk2.trans s'.tk) s5 .v (ie acc S' p' _)
end
def EI (K : PySem.W.Frag) (wi : TI) (env : Env) (S : Sto) (its : List D) : Prop := ∀ H0 B σ H, Stt K H0 B env S σ H → ∀ R : It → Hp → Prop,
  (∀ J G Y H1, Same H H1 → Walk J its.length G Y → (∀ H', Same H1 H' → G H') → (∀ i Ha x Hb, i < its.length → Y i Ha x Hb → G Ha → Same H1 Ha → Same Ha Hb ∧ ∃ d, its[i]? = some d ∧ Dat K Hb d x) → R J H1) → wi σ H R
section
variable {K : PySem.W.Frag} {env env' : Env} {S : Sto} {ta tb te tx : TE} {t u : TT} {tl : TA} {x y z d e : D} {ds es its : List D} {g : TG} {wi : TI}
theorem ip_tup (h : ED K te env S (.t ds)) : EI K (iTup K te) env S ds := fun H0 B σ H s R q =>
  h H0 B σ H s _ fun v H1 g1 dv => by
    obtain ⟨a, vs, rfl, hs, hl⟩ := dv.tt
    refine ⟨a, rfl, ⟨vs, hs⟩, q (Itt K a) (fun H => SqT K H a vs) (YAt vs) H1 g1 (by rw [hl.length]; exact walk_tup) (fun H' k' => (TK.of k').sq hs) fun i Ha x Hb _ y _ k' => ?_⟩
    obtain ⟨rfl, hx⟩ := y
    obtain ⟨d, hd, dd⟩ := (hl.mono (TK.of k')).got hx
    exact ⟨Same.refl _, d, hd, dd⟩
theorem LstAt.grow {a : Addr} {H H' : Hp} (l : LstAt K a ds H) (g : Same H H') : LstAt K a ds H' := by
  obtain ⟨vs, hs, hl⟩ := l
  exact ⟨vs, g.seq hs, hl.mono (TK.of g)⟩
theorem ip_lst (h : ED K te env S d) (l : Lst S d ds) : EI K (iList K te) env S ds := fun H0 B σ H s R q =>
  h H0 B σ H s _ fun v H1 g1 dv => by
    obtain ⟨a, rfl⟩ := l.ref (s.grow g1) dv
    have la := l.at (s.grow g1) dv
    obtain ⟨vs, hs, hl⟩ := id la
    refine ⟨a, rfl, ⟨vs, hs⟩, q (Itl K a) (LstAt K a ds) _ H1 g1 walk_lst (fun H' k' => la.grow k') fun i Ha x Hb _ y _ _ => ?_⟩
    obtain ⟨rfl, hx⟩ := y
    exact ⟨Same.refl _, hx⟩
theorem ip_new (h : EL K te env S ds) : EI K (iList K te) env S ds := fun H0 B σ H s R q =>
  h H0 B σ H s _ fun a vs H1 g1 hn ha hl => by
    have la : LstAt K a ds H1 := ⟨vs, SqL.of ha, hl⟩
    refine ⟨a, rfl, ⟨vs, SqL.of ha⟩, q (Itl K a) (LstAt K a ds) _ H1 g1 walk_lst (fun H' k' => la.grow k') fun i Ha x Hb _ y _ _ => ?_⟩
    obtain ⟨rfl, hx⟩ := y
    exact ⟨Same.refl _, hx⟩
theorem ip_rng1 {n : Int} (h : EA K tl env S [.v (.int n)]) (hn : -1000000 ≤ n ∧ n ≤ 1000000) : EI K (iRng1 tl) env S (rngD 0 n.toNat) := fun H0 B σ H s R q =>
  h H0 B σ H s _ fun vs H1 g1 dv => by
    cases dv with
    | cons a b =>
      cases b
      refine ⟨n, by rw [a.vv], by omega, by omega, q (Itr 0 n.toNat) (fun _ => True) _ H1 g1 (by rw [rngD_len]; exact walk_range) (fun _ _ => trivial) fun i Ha x Hb hi y _ _ => ?_⟩
      obtain ⟨rfl, rfl⟩ := y
      rw [rngD_len] at hi
      exact ⟨Same.refl _, _, rngD_get hi, .v⟩
theorem ip_zipT (h : EA K tl env S [.t ds, .t es]) : EI K (iZipA K tl) env S (zipD ds es) := fun H0 B σ H s R q =>
  h H0 B σ H s _ fun vs H1 g1 dv => by
    cases dv with
    | cons a b =>
      cases b with
      | cons a' b =>
        cases b
        obtain ⟨p1, xs, rfl, s1, l1⟩ := a.tt
        obtain ⟨p2, ys, rfl, s2, l2⟩ := a'.tt
        refine ⟨p1, p2, xs, ys, rfl, .inr ⟨s1, s2, q (ItzT K p1 p2) _ _ H1 g1 (walk_zipT (xs := xs) (ys := ys) (by rw [zipD_len, l1.length, l2.length])) (fun _ k => ⟨(TK.of k).sq s1, (TK.of k).sq s2⟩) fun i Ha x Hb hi y _ k => ?_⟩⟩
        obtain ⟨T, v, w, rfl, hT, rfl, hx, hy⟩ := y
        obtain ⟨d1, e1, dd1⟩ := (l1.mono (TK.of k)).got hx
        obtain ⟨d2, e2, dd2⟩ := (l2.mono (TK.of k)).got hy
        exact ⟨same_upd hT, _, zipD_get e1 e2, .t (.inl (.inl upd_same)) (.cons (dd1.mono (TK.of (same_upd hT))) (.cons (dd2.mono (TK.of (same_upd hT))) .nil))⟩
/-- f: what comes of each item, none where it is left out -/
theorem el_lc {vs : List Nat} {f : D → Option D} (hi : EI K wi env S its) (hz : its.length < 1000000)
    (h : ∀ d ∈ its, ∃ env2 b, EvGc K vs g (wipeE env vs) d env2 ∧ ET K t env2 S b ∧ (b = true → ∃ y, f d = some y ∧ ED K te env2 S y) ∧ (b = false → f d = none)) : EL K (tLc wi g t te vs) env S (its.filterMap f) := fun H0 B σ H s Q q =>
  hi H0 B σ H s _ fun J W Y H1 g1 w gk y => fun p hp => by
    have s1 := s.grow g1
    -- all but p stays
    have SB : ∀ {H' : Hp}, (∀ a o, a ≠ p → H1 a = some o → H' a = some o) → Same H1 H' := fun {H'} h a o e => h a o (ne_of_none e hp) e
    refine lc_it w (fun i H' => (∀ a o, a ≠ p → H1 a = some o → H' a = some o) ∧ ∃ ws, H' p = some (.lst ws) ∧ DatL K H' ((its.take i).filterMap f) ws) ⟨fun a o ne e => by rw [upd_ne ne]; exact e, [], upd_same, by simpa using DatL.nil⟩ (fun i H' hi ⟨k', _⟩ => gk H' (SB k')) ?_ fun H' ⟨k', ws, hw, dw⟩ => ?_
    · rintro i x Ha Hb hi ⟨k', ws, hw, dw⟩ yy
      obtain ⟨g2, d, hd, dd⟩ := y i Ha x Hb hi yy (gk Ha (SB k')) (SB k')
      obtain ⟨env2, b, hg, ht, hb1, hb0⟩ := h d (List.mem_of_getElem? hd)
      have tk : its.take (i + 1) = its.take i ++ [d] := by rw [List.take_succ, hd]; rfl
      have s3 := wipe_ok (vs := vs) (s1.grow (fun a o e => g2 _ _ (SB k' a o e) : Same H1 Hb))
      refine hg H0 B S (wipe σ vs) Hb x s3 dd _ fun σ2 w2 s4 => ⟨by rw [w2, wipe_wipe], ?_⟩
      refine ht H0 B σ2 Hb s4 _ fun H5 g5 => ?_
      cases b with
      | true =>
        obtain ⟨y0, fy, he⟩ := hb1 rfl
        refine he H0 B σ2 H5 (s4.grow g5) _ fun v H6 g6 dv => ?_
        have gg : Same Ha H6 := fun a o e => g6 _ _ (g5 _ _ (g2 _ _ e))
        have tk6 : TK H6 (upd H6 p (.lst (ws ++ [v]))) := tk_upd (gg _ _ hw) trivial
        refine ⟨ws, gg _ _ hw, ?_, fun a o ne e => by rw [upd_ne ne]; exact gg _ _ (k' a o ne e), _, upd_same, ?_⟩
        · rw [← dw.length]
          refine sz6l (Nat.lt_of_le_of_lt (Nat.le_trans (List.length_filterMap_le _ _) (List.length_take_le _ _)) (Nat.lt_of_lt_of_le hi (Nat.le_of_lt hz)))
        · rw [tk, List.filterMap_append]
          have : List.filterMap f [d] = [y0] := by simp [fy]
          rw [this]
          exact ((dw.mono (TK.of gg)).append (.cons dv .nil)).mono tk6
      | false =>
        have f0 := hb0 rfl
        refine ⟨fun a o ne e => g5 _ _ (g2 _ _ (k' a o ne e)), ws, g5 _ _ (g2 _ _ hw), ?_⟩
        rw [tk, List.filterMap_append]
        have : List.filterMap f [d] = [] := by simp [f0]
        rw [this, List.append_nil]
        exact dw.mono (TK.of (fun a o e => g5 _ _ (g2 _ _ e)))
    · rw [List.take_length] at dw
      exact q p ws H' (g1.trans (SB k')) (g1.free hp) hw dw
/-- without an if -/
theorem el_map {vs : List Nat} {f : D → D} (hi : EI K wi env S its) (h : ∀ d ∈ its, ∃ env2, EvGc K vs g (wipeE env vs) d env2 ∧ ED K te env2 S (f d)) (hz : its.length < 1000000) : EL K (tLc wi g tYes te vs) env S (its.map f) := by
  have := el_lc (f := fun d => some (f d)) (g := g) (t := tYes) (te := te) (vs := vs) hi hz fun d hd => by
    obtain ⟨env2, h1, h2⟩ := h d hd
    exact ⟨env2, true, h1, et_yes, fun _ => ⟨_, rfl, h2⟩, fun z => nomatch z⟩
  rw [List.filterMap_eq_map'] at this
  exact this
end
end DL
namespace DL
open PySem L2 RZ
section
variable {K : PySem.W.Frag} {H0 H H' : Hp} {B : List Addr} {env : Env} {S S' : Sto} {σ : St}
theorem StoOk.perm {S S' : Sto} (p : S.Perm S') : ∀ {fps : List (List Addr)}, StoOk K H S fps → ∃ gps, StoOk K H S' gps ∧ fps.Perm gps := by
  induction p with
  | nil => intro fps h; exact ⟨fps, h, .refl _⟩
  | cons x p ih =>
    intro fps h
    cases h with
    | cons a b =>
      obtain ⟨g, h1, h2⟩ := ih b
      exact ⟨_ :: g, .cons a h1, h2.cons _⟩
  | swap x y l =>
    intro fps h
    cases h with
    | cons a b =>
      cases b with
      | cons a' b' => exact ⟨_, .cons a' (.cons a b'), .swap _ _ _⟩
  | trans p q ih1 ih2 =>
    intro fps h
    obtain ⟨g, h1, h2⟩ := ih1 h
    obtain ⟨g', h3, h4⟩ := ih2 h1
    exact ⟨g', h3, h2.trans h4⟩
theorem Stt.perm (s : Stt K H0 B env S σ H) (p : S.Perm S') : Stt K H0 B env S' σ H := by
  obtain ⟨fps, h1, h2, h3⟩ := s.sto
  obtain ⟨gps, g1, g2⟩ := h1.perm p
  have fp := g2.flatten
  exact ⟨s.len, s.env, ⟨gps, g1, fp.nodup_iff.mp h2, fun a ha => h3 a (fp.mem_iff.mpr ha)⟩, s.same, s.tk⟩
end
section
variable {K : PySem.W.Frag} {E E' : XK} {Xs : XP} {env env' : Env} {S S' : Sto} {ta tb te tx : TE} {t u : TT} {tl : TA} {x y z d e : D} {r : R2} {ds es : List D} {O : Out} {g : TG} {gs : TGs} {a b c : TS} {P : D → Sto → Prop}
theorem ev_perm (p : S.Perm S') (h : EvE K E Xs te env S' P) : EvE K E Xs te env S P := fun H0 B σ H G s Q q => h H0 B σ H G (s.perm p) Q q
theorem s_perm (p : S.Perm S') (h : EvS K E Xs a env S' O) : EvS K E Xs a env S O := fun H0 B σ H G s => h H0 B σ H G (s.perm p)
/-- what is at the store's head is let go -/
theorem s_drop {F : Sto} (h : EvS K E Xs a env S O) : EvS K E Xs a env (F ++ S) O := fun H0 B σ H G s => h H0 B σ H G (Stt.drop s)
theorem s_drop1 {p : V × Th} (h : EvS K E Xs a env S O) : EvS K E Xs a env (p :: S) O := s_drop (F := [p]) h
theorem s_keep {F : Sto} (h : EvS K E Xs a env S O) : EvS K E Xs a env (S ++ F) O := fun H0 B σ H G s => h H0 B σ H G (Stt.fore s)
/-- names are forgotten -/
theorem s_env (hl : env'.length = env.length) (m : ∀ (i : Nat) (d : D), env'[i]? = some (some d) → env[i]? = some (some d)) (h : EvS K E Xs a env' S O) : EvS K E Xs a env S O := fun H0 B σ H G s => h H0 B σ H G (s.envs (hl.trans s.len) fun i d e => s.env i d (m i d e))
def putD (f : Str) (d : D) : List (Str × D) → List (Str × D)
  | [] => [(f, d)]
  | (g, e) :: r => if g = f then (g, d) :: r else (g, e) :: putD f d r
theorem fld_dat {H : Hp} {fs : List (Str × D)} {gs : List (Str × V)} {f : Str} (n : gs.map Prod.fst = fs.map Prod.fst) (h : DatL K H (fs.map Prod.snd) (gs.map Prod.snd)) (l : fs.lookup f = some d) : ∃ v, gs.lookup f = some v ∧ Dat K H d v := by
  induction fs generalizing gs with
  | nil => cases l
  | cons p fs ih =>
    obtain ⟨k, e⟩ := p
    cases gs with
    | nil => cases n
    | cons q gs =>
      obtain ⟨k', v⟩ := q
      simp at n
      obtain ⟨rfl, n⟩ := n
      cases h with
      | cons a b =>
        rw [List.lookup_cons] at l ⊢
        split at l
        · rename_i he; cases l
          exact ⟨v, rfl, a⟩
        · exact ih n b l
theorem fld_none {fs : List (Str × D)} {gs : List (Str × V)} {f : Str} (n : gs.map Prod.fst = fs.map Prod.fst) (l : fs.lookup f = none) : gs.lookup f = none := by
  induction fs generalizing gs with
  | nil =>
    cases gs with
    | nil => rfl
    | cons q gs => cases n
  | cons p fs ih =>
    obtain ⟨k, e⟩ := p
    cases gs with
    | nil => cases n
    | cons q gs =>
      obtain ⟨k', v⟩ := q
      simp at n
      obtain ⟨rfl, n⟩ := n
      rw [List.lookup_cons] at l ⊢
      split at l
      · cases l
      · exact ih n l
theorem put_dat {H : Hp} {f : Str} {v : V} (hv : Dat K H d v) : ∀ {fs : List (Str × D)} {gs : List (Str × V)}, gs.map Prod.fst = fs.map Prod.fst → DatL K H (fs.map Prod.snd) (gs.map Prod.snd) →
    (putF f v gs).map Prod.fst = (putD f d fs).map Prod.fst ∧ DatL K H ((putD f d fs).map Prod.snd) ((putF f v gs).map Prod.snd)
  | [], [], _, _ => ⟨rfl, .cons hv .nil⟩
  | [], _ :: _, n, _ => by cases n
  | _ :: _, [], n, _ => by cases n
  | (k, e) :: fs, (k', w) :: gs, n, h => by
    simp at n
    obtain ⟨rfl, n⟩ := n
    cases h with
    | cons a b =>
      unfold putD putF
      by_cases q : k' = f
      · rw [if_pos q, if_pos q]
        exact ⟨by simp [n], .cons hv b⟩
      · rw [if_neg q, if_neg q]
        obtain ⟨i1, i2⟩ := put_dat hv (fs := fs) (gs := gs) n b
        exact ⟨by simp [i1], .cons a i2⟩
theorem Stt.ins {H0 H : Hp} {B : List Addr} {σ : St} {k : Nat} {x : V} {C : Addr} {fs : List (Str × D)} (s : Stt K H0 B env S σ H) (hk : S[k]? = some (x, .i C fs)) :
    ∃ a dx gs, x = .ref a ∧ H a = some (.ins C dx gs) ∧ gs.map Prod.fst = fs.map Prod.fst ∧ DatL K H (fs.map Prod.snd) (gs.map Prod.snd) ∧
      ∀ fs' gs', gs'.map Prod.fst = fs'.map Prod.fst → DatL K H (fs'.map Prod.snd) (gs'.map Prod.snd) → TK H (upd H a (.ins C dx gs')) ∧ Stt K H0 B env (S.set k (x, .i C fs')) σ (upd H a (.ins C dx gs')) := by
  obtain ⟨fps, h1, h2, h3⟩ := id s.sto
  obtain ⟨fp, hf, hh⟩ := h1.get hk
  obtain ⟨a, dx, gs, rfl, rfl, ha, hd, hn, hl⟩ := hh
  refine ⟨a, dx, gs, rfl, ha, hn, hl, fun fs' gs' hn' hl' => ?_⟩
  have tk : TK H (upd H a (.ins C dx gs')) := tk_upd ha trivial
  refine ⟨tk, s.mut hk tk fun fp' hh' => ?_⟩
  obtain ⟨b, dx', gs2, e, rfl, hb, hd', _, _⟩ := hh'
  cases e
  rw [ha] at hb; cases hb
  have nd : dx ≠ a := ne_of hd ha (by intro z; cases z)
  exact ⟨⟨a, dx, gs', rfl, rfl, upd_same, by rw [upd_ne nd]; exact hd, hn', hl'.mono tk⟩, fun c o nc hc => by rw [upd_ne (by intro z; exact nc (by simp [z]))]; exact hc⟩
/-- o.f -/
theorem ed_fld {k : Nat} {v : V} {C : Addr} {fs : List (Str × D)} {f : Str} (h : ED K ta env S (.v v)) (hk : S[k]? = some (v, .i C fs)) (c : Cls K C) (n : NoAttr K C f) (l : fs.lookup f = some d) : ED K (tFld K ta f) env S d := fun H0 B σ H s Q q =>
  h H0 B σ H s _ fun w H1 g1 dv => by
    obtain ⟨p, dx, gs, rfl, ha, hn, hl, _⟩ := (s.grow g1).ins hk
    obtain ⟨y, hy, dy⟩ := fld_dat hn hl l
    rw [dv.vv]
    exact ⟨p, C, dx, gs, y, rfl, ha, c, n, hy, q y H1 g1 dy⟩
/-- o.f = e -/
theorem s_fld {C : Addr} {f : Str} (h : EvE K E Xs te env S fun d S1 => ∃ k v fs, ED K ta env S1 (.v v) ∧ S1[k]? = some (v, .i C fs) ∧ fs.length < 1000 ∧ O.nx env (S1.set k (v, .i C (putD f d fs)))) (c : Cls K C) (n : NoAttr K C f) : EvS K E Xs (sFld K ta te f) env S O := fun H0 B σ H G s Z n' r k' c' =>
  h H0 B σ H G s _ fun d S1 y H1 k1 s1 dy ⟨k, v, fs, hv, hk, hlen, p⟩ => hv H0 B σ H1 s1 _ fun w H2 g2 dv => by
    obtain ⟨q, dx, gs, rfl, ha, hn, hl, up⟩ := (s1.grow g2).ins hk
    rw [dv.vv]
    obtain ⟨p1, p2⟩ := put_dat (f := f) (dy.mono (TK.of g2)) hn hl
    have hll : gs.length = fs.length := by have := congrArg List.length hn; simpa using this
    refine ⟨q, C, dx, gs, rfl, ha, c, n, by rw [hll]; exact hlen, n' env _ σ _ (up _ _ p1 p2).2 p⟩
/-- o.m(..) -/
theorem ev_meth {Ph : Spec} {C : Addr} {m : Str} {v : V} {k : Nat} {fs : List (Str × D)} (h : ED K ta env S (.v v)) (hk : S[k]? = some (v, .i C fs)) (hm : fs.lookup m = none)
    (ha : EvA K E Xs tl env S fun ds S0 => ∃ S1 F, S0.Perm (S1 ++ F) ∧ Ph (.v v :: ds) S1 (fun d' S' => P d' (S' ++ F)) Xs) : EvE K E Xs (tMeth C m (spD K Ph) [] E ta tl) env S P := fun H0 B σ H G s Q q =>
  h H0 B σ H s _ fun w H1 g1 dw => by
    have s1 := s.grow g1
    obtain ⟨p, dx, gs, rfl, hp, hn, _, _⟩ := s1.ins hk
    rw [dw.vv]
    refine ⟨p, dx, gs, rfl, hp, fld_none hn hm, ha H0 B σ H1 G s1 _ fun ds S0 vs H2 k2 s2 dv ⟨S1, F, pm, hPh⟩ => ?_⟩
    have s3 := s2.perm pm
    obtain ⟨fps, h1, h2, h3⟩ := id s3.sto
    obtain ⟨f1, fF, rfl, o1, oF⟩ := h1.split
    refine ⟨.v (.ref p) :: ds, S1, f1, _, _, by rw [List.append_nil]; exact .cons .v dv, o1, ?_, hPh, fun d' S' v' H' fps' tk sb so nd fr dd rr => ?_, good_sub G s3 fun a ha => h3 a (by rw [List.flatten_append]; exact List.mem_append_left _ ha)⟩
    · rw [List.flatten_append] at h2
      exact (List.nodup_append.mp h2).1
    · exact q d' (S' ++ F) v' H' ((TK.of g1).trans (k2.trans tk)) (Stt.call s3 o1 oF h2 h3 tk sb so nd fr) dd rr
/-- C(..) -/
theorem ev_make {Ph : Spec} {C : Addr} (ha : EvA K E Xs tl env S fun ds S0 => ∀ x, ∃ S1 F, ((x, Th.i C []) :: S0).Perm (S1 ++ F) ∧ Ph (.v x :: ds) S1 (fun d' S' => d' = .v .non ∧ P (.v x) (S' ++ F)) Xs) : EvE K E Xs (tMake C (spD K Ph) [] E tl) env S P := fun H0 B σ H G s Q q =>
  ha H0 B σ H G s _ fun ds S0 vs H1 k1 s1 dv hh => fun x dx hx hdx ne => by
    have sm : Same H1 (upd (upd H1 dx (.own x)) x (.ins C dx [])) := fun b o e => by rw [upd_ne (ne_of_none e hx), upd_ne (ne_of_none e hdx)]; exact e
    have s2 : Stt K H0 B env ((.ref x, Th.i C []) :: S0) σ (upd (upd H1 dx (.own x)) x (.ins C dx [])) := s1.fresh (fp := [x, dx]) sm (by simp [hx, hdx]) (by simp; exact fun z => ne z.symm)
      ⟨x, dx, [], rfl, rfl, upd_same, by rw [upd_ne ne]; exact upd_same, rfl, .nil⟩
    obtain ⟨S1, F, pm, hPh⟩ := hh (.ref x)
    have s3 := s2.perm pm
    obtain ⟨fps, h1, h2, h3⟩ := id s3.sto
    obtain ⟨f1, fF, rfl, o1, oF⟩ := h1.split
    refine ⟨.v (.ref x) :: ds, S1, f1, _, _, by rw [List.append_nil]; exact .cons .v (dv.mono (TK.of sm)), o1, ?_, hPh, fun d' S' v' H' fps' tk sb so nd fr dd rr => ?_, good_sub G s3 fun a ha => h3 a (by rw [List.flatten_append]; exact List.mem_append_left _ ha)⟩
    · rw [List.flatten_append] at h2
      exact (List.nodup_append.mp h2).1
    · obtain ⟨rfl, pp⟩ := rr
      exact ⟨dd.vv, q _ (S' ++ F) _ H' (k1.trans ((TK.of sm).trans tk)) (Stt.call s3 o1 oF h2 h3 tk sb so nd fr) .v pp⟩
/-- a call that is lent a part of the store, in any order -/
theorem ev_callQ {Ph : Spec} (ha : EvA K E Xs tl env S fun ds S0 => ∃ S1 F, S0.Perm (S1 ++ F) ∧ Ph ds S1 (fun d' S' => P d' (S' ++ F)) Xs) : EvE K E Xs (tCall (spD K Ph) [] E tl) env S P := fun H0 B σ H G s Q q =>
  ha H0 B σ H G s _ fun ds S0 vs H1 k1 s1 dv ⟨S1, F, pm, hPh⟩ => by
    have s3 := s1.perm pm
    obtain ⟨fps, h1, h2, h3⟩ := id s3.sto
    obtain ⟨f1, fF, rfl, o1, oF⟩ := h1.split
    refine ⟨ds, S1, f1, _, _, by rw [List.append_nil]; exact dv, o1, ?_, hPh, fun d' S' v' H' fps' tk sb so nd fr dd rr => ?_, good_sub G s3 fun a ha => h3 a (by rw [List.flatten_append]; exact List.mem_append_left _ ha)⟩
    · rw [List.flatten_append] at h2
      exact (List.nodup_append.mp h2).1
    · exact q d' (S' ++ F) v' H' (k1.trans tk) (Stt.call s3 o1 oF h2 h3 tk sb so nd fr) dd rr
end
section
variable {P : Program} {w : World} {K : PySem.W.Frag} {mg : Str → Option Value} {base : Heap}
theorem stt_start {H : Hp} {N : List Str} {ds : List D} {vs : List V} {S : Sto} {fps : List (List Addr)} (dl : DatL K H ds vs) (so : StoOk K H S fps) (nd : fps.flatten.Nodup) : Stt K H fps.flatten (startE N ds) S (L2.start N vs) H := by
  refine ⟨by simp [startE, L2.start, dl.length], fun i d e => ?_, ⟨fps, so, nd, fun a ha => .inr ha⟩, SameBut.refl _ _, TK.refl _⟩
  unfold startE at e
  unfold L2.start
  by_cases hi : i < ds.length
  · rw [List.getElem?_append_left (by simpa using hi), List.getElem?_map] at e
    cases q : ds[i]? with
    | none => rw [q] at e; cases e
    | some d' =>
      rw [q] at e
      cases e
      obtain ⟨v, hv, dv⟩ := dl.get q
      exact ⟨v, by rw [List.getElem?_append_left (by simpa [← dl.length] using hi), List.getElem?_map, hv]; rfl, dv⟩
  · rw [List.getElem?_append_right (by simpa using hi), List.getElem?_replicate] at e
    split at e <;> cases e
theorem run_body {E : XK} {H : Hp} {N : List Str} {ds : List D} {vs : List V} {S : Sto} {fps : List (List Addr)} {R : D → Sto → Prop} {Xs : XP} {t : TS} {Q : VK} (dl : DatL K H ds vs) (so : StoOk K H S fps) (nd : fps.flatten.Nodup) (G : Good K E H fps.flatten Xs)
    (hQ : ∀ d S' v H' fps', TK H H' → SameBut fps.flatten H H' → StoOk K H' S' fps' → fps'.flatten.Nodup → (∀ a ∈ fps'.flatten, H a = none ∨ a ∈ fps.flatten) → Dat K H' d v → R d S' → Q v H')
    (h : EvS K E Xs t (startE N ds) S (outR R)) : t { nx := fun _ H' => Q .non H', rt := Q } (L2.start N vs) H := by
  refine h H fps.flatten (L2.start N vs) H G (stt_start dl so nd) _ (fun env' S' σ' H' s' p => ?_) (fun d S' v env' σ' H' s' dv p => ?_) (fun _ _ _ _ _ p => p.elim) (fun _ _ _ _ _ p => p.elim)
  · obtain ⟨gps, g1, g2, g3⟩ := s'.sto
    exact hQ _ S' .non H' gps s'.tk s'.same g1 g2 g3 .v p
  · obtain ⟨gps, g1, g2, g3⟩ := s'.sto
    exact hQ d S' v H' gps s'.tk s'.same g1 g2 g3 dv p
/-- a def that raises nothing -/
theorem okD {x qual : Str} {st : Stmt} {f : Addr} {fd : FuncData} {N ps : List Str} {k : Nat} {Ph : Spec} (F : Fun K x qual st f fd) (S : FnScope N ps (defScope st)) (len : ∀ ds S R Xs, Ph ds S R Xs → ds.length = ps.length)
    (hbody : ∀ (cdv : Value) (A : Around) (outer : List PySem.Env) (s : Shared) (H : Hp) (E : XK), Room k (A.deeper (PyProof.Rows.envOfC qual (defScope st) s.heap.objs.size f cdv)) → ∀ ds S R Xs, Ph ds S R Xs →
      ∃ t, PSs (cxOf CX0 P w K mg base N qual (defScope st) f cdv A outer s H E).nox (defBody st) t ∧ EvS K E XF t (startE N ds) S (outR R)) : FnOk P w K mg base CX0 (k + 1) f fd ps (spD K Ph) := by
  refine F.ok S (fun vs H Q E h => ?_) (fun cdv A outer s H vs Q E hr h => ?_)
  · obtain ⟨ds, S, fps, R, Xs, dl, _, _, hPh, _⟩ := h
    rw [← dl.length]; exact len _ _ _ _ hPh
  · obtain ⟨ds, S, fps, R, Xs, dl, so, nd, hPh, hQ, hG⟩ := h
    obtain ⟨t, ht, hv⟩ := hbody cdv A outer s H E hr ds S R Xs hPh
    exact ⟨t, ht, run_body dl so nd good0 hQ hv⟩
/-- a def that may raise -/
theorem okDX {x qual : Str} {st : Stmt} {f : Addr} {fd : FuncData} {N ps : List Str} {k : Nat} {Ph : Spec} (F : Fun K x qual st f fd) (S : FnScope N ps (defScope st)) (len : ∀ ds S R Xs, Ph ds S R Xs → ds.length = ps.length)
    (hbody : ∀ (cdv : Value) (A : Around) (outer : List PySem.Env) (s : Shared) (H : Hp) (E : XK), Room k (A.deeper (PyProof.Rows.envOfC qual (defScope st) s.heap.objs.size f cdv)) → ∀ ds S R Xs, Ph ds S R Xs →
      ∃ t, PSs (cxOf (L2.CX P w) P w K mg base N qual (defScope st) f cdv A outer s H E) (defBody st) t ∧ EvS K E Xs t (startE N ds) S (outR R)) : FnOk P w K mg base (L2.CX P w) (k + 1) f fd ps (spD K Ph) := by
  refine F.okX S (fun vs H Q E h => ?_) (fun cdv A outer s H vs Q E hr h => ?_)
  · obtain ⟨ds, S, fps, R, Xs, dl, _, _, hPh, _⟩ := h
    rw [← dl.length]; exact len _ _ _ _ hPh
  · obtain ⟨ds, S, fps, R, Xs, dl, so, nd, hPh, hQ, hG⟩ := h
    obtain ⟨t, ht, hv⟩ := hbody cdv A outer s H E hr ds S R Xs hPh
    exact ⟨t, ht, run_body dl so nd hG hQ hv⟩
end
end DL
namespace DL
open PySem L2 RZ
open scoped Rat
abbrev dI (i : Int) : D := .v (.int i)
abbrev dB (b : Bool) : D := .v (.bl b)
abbrev dN : D := .v .non
abbrev dS (x : Str) : D := .v (.str x)
def dR (q : Rat) : D := .t [.v (.int q.num), .v (.int (q.den : Int))]
/-- how great the parts are -/
def Sz (n : Nat) (q : Rat) : Prop := q.num.natAbs < 2 ^ n ∧ q.den < 2 ^ n
def BB : Nat := 4400
theorem Sz.mono {m n : Nat} {q : Rat} (h : Sz m q) (l : m ≤ n) : Sz n q := ⟨Nat.lt_of_lt_of_le h.1 (Nat.pow_le_pow_right (by decide) l), Nat.lt_of_lt_of_le h.2 (Nat.pow_le_pow_right (by decide) l)⟩
theorem sz_int {n : Nat} {i : Int} (h : i.natAbs < 2 ^ n) (h0 : 0 < n) : Sz n (i : Rat) := ⟨h, by show 1 < 2 ^ n; exact Nat.one_lt_two_pow (by omega)⟩
theorem sz_divInt {n : Nat} {a b : Int} (ha : a.natAbs < 2 ^ n) (hb : b.natAbs < 2 ^ n) (h0 : 0 < n) : Sz n (a /. b) := by
  refine ⟨?_, ?_⟩
  · rw [Rat.num_divInt]
    by_cases hz : b = 0
    · subst hz; simp
      exact Nat.pow_pos (by decide)
    · have : (b.sign * a / (b.gcd a : Int)).natAbs ≤ a.natAbs := by
        have h1 : (b.sign * a / (b.gcd a : Int)).natAbs ≤ (b.sign * a).natAbs := by
          rcases Int.emod_emod_of_dvd (b.sign * a) (Int.dvd_refl 1) with _
          exact Int.natAbs_ediv_le_natAbs _ _
        have h2 : (b.sign * a).natAbs ≤ a.natAbs := by
          rw [Int.natAbs_mul]
          have : b.sign.natAbs ≤ 1 := by rw [Int.natAbs_sign]; split <;> omega
          exact Nat.le_trans (Nat.mul_le_mul_right _ this) (by omega)
        omega
      omega
  · rw [Rat.den_divInt]
    by_cases hz : b = 0
    · rw [if_pos hz]; exact Nat.one_lt_two_pow (by omega)
    · rw [if_neg hz]
      exact Nat.lt_of_le_of_lt (Nat.div_le_self _ _) hb
theorem pos_den (q : Rat) : (0 : Int) < (q.den : Int) := by have := q.den_pos; omega
theorem divInt_self (q : Rat) : q.num /. (q.den : Int) = q := Rat.num_divInt_den q
theorem mul_as (p q : Rat) : p * q = (p.num * q.num) /. ((p.den : Int) * (q.den : Int)) := by
  rw [← Rat.divInt_mul_divInt, divInt_self, divInt_self]
theorem add_as (p q : Rat) : p + q = (p.num * (q.den : Int) + q.num * (p.den : Int)) /. ((p.den : Int) * (q.den : Int)) := by
  have := Rat.divInt_add_divInt p.num q.num (d₁ := (p.den : Int)) (d₂ := (q.den : Int)) (by have := pos_den p; omega) (by have := pos_den q; omega)
  rw [divInt_self, divInt_self] at this
  rw [this, Int.mul_comm q.num]
theorem sub_as (p q : Rat) : p - q = (p.num * (q.den : Int) - q.num * (p.den : Int)) /. ((p.den : Int) * (q.den : Int)) := by
  have := Rat.divInt_sub_divInt p.num q.num (d₁ := (p.den : Int)) (d₂ := (q.den : Int)) (by have := pos_den p; omega) (by have := pos_den q; omega)
  rw [divInt_self, divInt_self] at this
  exact this
theorem div_as (p q : Rat) : p / q = (p.num * (q.den : Int)) /. ((p.den : Int) * q.num) := by
  rw [Rat.div_def]
  have e : q⁻¹ = (q.den : Int) /. q.num := Rat.inv_def q
  rw [e]
  conv => lhs; rw [← divInt_self p]
  rw [Rat.divInt_mul_divInt]
theorem natlt {a b m n : Nat} (ha : a < 2 ^ m) (hb : b < 2 ^ n) : a * b < 2 ^ (m + n) := by
  rw [Nat.pow_add]
  exact Nat.mul_lt_mul'' ha hb
theorem Sz.mul {m n : Nat} {p q : Rat} (hp : Sz m p) (hq : Sz n q) (h0 : 0 < m + n) : Sz (m + n) (p * q) := by
  rw [mul_as]
  exact sz_divInt (by rw [Int.natAbs_mul]; exact natlt hp.1 hq.1) (by rw [Int.natAbs_mul]; exact natlt hp.2 hq.2) h0
theorem Sz.add {m n : Nat} {p q : Rat} (hp : Sz m p) (hq : Sz n q) : Sz (m + n + 1) (p + q) := by
  rw [add_as]
  refine sz_divInt ?_ ?_ (by omega)
  · have h1 : (p.num * (q.den : Int)).natAbs < 2 ^ (m + n) := by rw [Int.natAbs_mul]; exact natlt hp.1 hq.2
    have h2 : (q.num * (p.den : Int)).natAbs < 2 ^ (m + n) := by rw [Int.natAbs_mul, Nat.add_comm]; exact natlt hq.1 hp.2
    rw [Nat.pow_succ]
    omega
  · have : ((p.den : Int) * (q.den : Int)).natAbs < 2 ^ (m + n) := by rw [Int.natAbs_mul]; exact natlt hp.2 hq.2
    rw [Nat.pow_succ]
    omega
theorem Sz.sub {m n : Nat} {p q : Rat} (hp : Sz m p) (hq : Sz n q) : Sz (m + n + 1) (p - q) := by
  rw [sub_as]
  refine sz_divInt ?_ ?_ (by omega)
  · have h1 : (p.num * (q.den : Int)).natAbs < 2 ^ (m + n) := by rw [Int.natAbs_mul]; exact natlt hp.1 hq.2
    have h2 : (q.num * (p.den : Int)).natAbs < 2 ^ (m + n) := by rw [Int.natAbs_mul, Nat.add_comm]; exact natlt hq.1 hp.2
    rw [Nat.pow_succ]
    omega
  · have : ((p.den : Int) * (q.den : Int)).natAbs < 2 ^ (m + n) := by rw [Int.natAbs_mul]; exact natlt hp.2 hq.2
    rw [Nat.pow_succ]
    omega
theorem Sz.div {m n : Nat} {p q : Rat} (hp : Sz m p) (hq : Sz n q) (h0 : 0 < m + n) : Sz (m + n) (p / q) := by
  rw [div_as]
  exact sz_divInt (by rw [Int.natAbs_mul]; exact natlt hp.1 hq.2) (by rw [Int.natAbs_mul]; exact natlt hp.2 hq.1) h0
theorem Sz.neg {m : Nat} {p : Rat} (hp : Sz m p) : Sz m (-p) := ⟨by rw [Rat.neg_num, Int.natAbs_neg]; exact hp.1, by rw [Rat.neg_den]; exact hp.2⟩
theorem fmod_small (a b : Int) (hb : b ≠ 0) : (a.fmod b).natAbs < b.natAbs := by
  rcases Int.lt_or_gt_of_ne hb with h | h
  · have h1 : a.fmod b = -((-a).fmod (-b)) := by rw [Int.neg_fmod_neg]; omega
    have h2 := Int.fmod_nonneg_of_pos (-a) (b := -b) (by omega)
    have h3 := Int.fmod_lt_of_pos (-a) (b := -b) (by omega)
    omega
  · have h2 := Int.fmod_nonneg_of_pos a h
    have h3 := Int.fmod_lt_of_pos a h
    omega
theorem gcd_fmod (a b : Int) : Int.gcd b (a.fmod b) = Int.gcd a b := by
  have e : a.fmod b = a - b * a.fdiv b := by have := Int.mul_fdiv_add_fmod a b; omega
  rw [e, Int.gcd_comm a b]
  have : a - b * a.fdiv b = a + b * (-(a.fdiv b)) := by rw [Int.mul_neg]; omega
  rw [this, Int.gcd_add_mul_left_right]
/-- the divisor, with the bottom's sign -/
def byOf (t b : Int) : Int := if b < 0 then 0 - (Int.gcd t b : Int) else (Int.gcd t b : Int)
theorem gcd_pos {t b : Int} (hb : b ≠ 0) : (0 : Int) < (Int.gcd t b : Int) := by
  have : 0 < Int.gcd t b := Int.gcd_pos_of_ne_zero_right t hb
  omega
theorem byOf_ne {t b : Int} (hb : b ≠ 0) : byOf t b ≠ 0 := by
  have := gcd_pos (t := t) hb
  unfold byOf; split <;> omega
theorem fdiv_neg_exact {g k : Int} (hg : 0 < g) : (g * k).fdiv (-g) = -k := by
  have e : g * k = (-g) * (-k) := by rw [Int.neg_mul_neg]
  rw [e, Int.mul_fdiv_cancel_left _ (by omega)]
theorem top_by {t b : Int} (hb : b ≠ 0) : t.fdiv (byOf t b) = (Rat.divInt t b).num := by
  have g := gcd_pos (t := t) hb
  rw [Rat.num_divInt, Int.gcd_comm b t]
  unfold byOf
  obtain ⟨k, hk⟩ : ((Int.gcd t b : Int)) ∣ t := Int.gcd_dvd_left t b
  generalize hG : (Int.gcd t b : Int) = G at *
  by_cases h : b < 0
  · rw [if_pos h, Int.sign_eq_neg_one_of_neg h]
    have e1 : (0 - G) = -G := by omega
    have e3 : (-1 : Int) * t = G * (-k) := by rw [Int.mul_neg, ← hk]; omega
    rw [e1, e3, Int.mul_ediv_cancel_left _ (by omega), hk, fdiv_neg_exact g]
  · rw [if_neg h, Int.sign_eq_one_of_pos (by omega), Int.one_mul, Int.fdiv_eq_ediv_of_nonneg _ (by omega)]
theorem bot_by {t b : Int} (hb : b ≠ 0) : b.fdiv (byOf t b) = ((Rat.divInt t b).den : Int) := by
  have g := gcd_pos (t := t) hb
  rw [Rat.den_divInt, if_neg hb, Int.gcd_comm b t]
  unfold byOf
  obtain ⟨k, hk⟩ : ((Int.gcd t b : Int)) ∣ b := Int.gcd_dvd_right t b
  rw [Int.natCast_ediv]
  generalize hG : (Int.gcd t b : Int) = G at *
  by_cases h : b < 0
  · rw [if_pos h]
    have e1 : (0 - G) = -G := by omega
    have e2 : ((b.natAbs : Nat) : Int) = G * (-k) := by rw [Int.mul_neg, ← hk]; omega
    rw [e1, e2, Int.mul_ediv_cancel_left _ (by omega), hk, fdiv_neg_exact g]
  · rw [if_neg h]
    have e2 : ((b.natAbs : Nat) : Int) = b := by omega
    rw [e2, Int.fdiv_eq_ediv_of_nonneg _ (by omega)]
/-- a division without a rest whose quotient is below 2 ^ 4400 goes by the school's way -/
theorem noPy {x y q : Int} (h : x = y * q) (hq : q.natAbs < 2 ^ BB) : Builtin.divisionGoesByPylong x y = false := by
  have key : ¬ ((if y == 0 then 0 else y.natAbs.log2 / 30 + 1) > 300 ∧ (if x == 0 then 0 else x.natAbs.log2 / 30 + 1) > (if y == 0 then 0 else y.natAbs.log2 / 30 + 1) + 150) := by
    rintro ⟨h1, h2⟩
    by_cases hy : y = 0
    · subst hy; simp at h1
    by_cases hx : x = 0
    · subst hx; simp at h2
    have ey : (y == 0) = false := by simp [hy]
    have ex : (x == 0) = false := by simp [hx]
    rw [ey, ex] at h2
    simp only [Bool.false_eq_true, if_false] at h2
    have lx : x.natAbs.log2 < y.natAbs.log2 + 1 + BB := by
      rw [Nat.log2_lt (by omega), h, Int.natAbs_mul]
      exact natlt Nat.lt_log2_self hq
    have e : BB = 4400 := rfl
    omega
  show (decide ((if y == 0 then 0 else y.natAbs.log2 / 30 + 1) > 300) && decide ((if x == 0 then 0 else x.natAbs.log2 / 30 + 1) > (if y == 0 then 0 else y.natAbs.log2 / 30 + 1) + 150)) = false
  rw [← Bool.not_eq_true, Bool.and_eq_true, decide_eq_true_eq, decide_eq_true_eq]
  exact key
theorem by_dvd {t b : Int} : byOf t b ∣ t ∧ byOf t b ∣ b := by
  unfold byOf
  have h1 : ((Int.gcd t b : Int)) ∣ t := Int.gcd_dvd_left t b
  have h2 : ((Int.gcd t b : Int)) ∣ b := Int.gcd_dvd_right t b
  split
  · have e : (0 - (Int.gcd t b : Int)) = -(Int.gcd t b : Int) := by omega
    rw [e]; exact ⟨Int.neg_dvd.mpr h1, Int.neg_dvd.mpr h2⟩
  · exact ⟨h1, h2⟩
theorem noPy_top {t b : Int} (hb : b ≠ 0) (s : Sz BB (Rat.divInt t b)) : Builtin.divisionGoesByPylong t (byOf t b) = false := by
  refine noPy (q := t.fdiv (byOf t b)) ?_ (by rw [top_by hb]; exact s.1)
  rw [Int.mul_fdiv_cancel' by_dvd.1]
theorem noPy_bot {t b : Int} (hb : b ≠ 0) (s : Sz BB (Rat.divInt t b)) : Builtin.divisionGoesByPylong b (byOf t b) = false := by
  refine noPy (q := b.fdiv (byOf t b)) ?_ (by rw [bot_by hb]; exact s.2)
  rw [Int.mul_fdiv_cancel' by_dvd.2]
/-- // of whole numbers where the school's way is gone -/
def CDivP (i j : Int) : Prop := j ≠ 0 ∧ Builtin.divisionGoesByPylong i j = false
theorem op_fdivP {X : Cx} : OpR X (binaryOp .FloorDiv) (rI CDivP fun i j => .int (i.fdiv j)) := opI fun _ _ _ _ _ _ _ hc q => PyProof.Rows.floordiv_int hc.1 q (.inl hc.2)
end DL
namespace DL
open PySem L2 RZ
theorem mulw {i j : Int} (hi : i.natAbs < 2 ^ BB) (hj : j.natAbs < 2 ^ BB) : CMulW i j := wide_mul hi hj (by decide) (by decide) (by decide)
theorem den_ne (p q : Rat) : (p.den : Int) * (q.den : Int) ≠ 0 := Int.ne_of_gt (Int.mul_pos (pos_den p) (pos_den q))
theorem den_num_ne (p : Rat) {q : Rat} (h : q ≠ 0) : (p.den : Int) * q.num ≠ 0 := by
  intro z
  rcases Int.mul_eq_zero.mp z with z | z
  · have := pos_den p; omega
  · exact h (Rat.num_eq_zero.mp z)
end DL
namespace DL
open PySem L2 RZ
/-- a def of the module that may be called by its name: its promise, with the defaults dvs -/
structure Cal (P : Program) (w : World) (K : PySem.W.Frag) (mg : Str → Option Value) (base : Heap) (k : Nat) (x : Str) (Ph : Spec) (dvs : List V) : Prop where
  ex : ∃ (f : Addr) (fd : FuncData) (ps : List Str) (ds : List Value), FnOk P w K mg base CX0 k f fd ps (spD K Ph) ∧ mg x = some (.ref f) ∧ PySem.W.keepIn K (.ref f) = true ∧ Binds K fd ps ds ∧ Vals dvs ds
/-- .. that may raise -/
structure CalX (P : Program) (w : World) (K : PySem.W.Frag) (mg : Str → Option Value) (base : Heap) (k : Nat) (x : Str) (Ph : Spec) (dvs : List V) : Prop where
  ex : ∃ (f : Addr) (fd : FuncData) (ps : List Str) (ds : List Value), FnOk P w K mg base (L2.CX P w) k f fd ps (spD K Ph) ∧ mg x = some (.ref f) ∧ PySem.W.keepIn K (.ref f) = true ∧ Binds K fd ps ds ∧ Vals dvs ds
/-- a method of the class at C -/
structure Met (P : Program) (w : World) (K : PySem.W.Frag) (mg : Str → Option Value) (base : Heap) (k : Nat) (C : Addr) (m : Str) (Ph : Spec) : Prop where
  ex : ∃ (f : Addr) (fd : FuncData) (ps : List Str), Cls K C ∧ Meth K C m f ∧ FnOk P w K mg base CX0 k f fd ps (spD K Ph) ∧ Binds K fd ps []
structure MetX (P : Program) (w : World) (K : PySem.W.Frag) (mg : Str → Option Value) (base : Heap) (k : Nat) (C : Addr) (m : Str) (Ph : Spec) : Prop where
  ex : ∃ (f : Addr) (fd : FuncData) (ps : List Str), Cls K C ∧ Meth K C m f ∧ FnOk P w K mg base (L2.CX P w) k f fd ps (spD K Ph) ∧ Binds K fd ps []
/-- a class that is called -/
structure Mak (P : Program) (w : World) (K : PySem.W.Frag) (mg : Str → Option Value) (base : Heap) (k : Nat) (x : Str) (C : Addr) (Ph : Spec) : Prop where
  ex : ∃ (f : Addr) (fd : FuncData) (ps : List Str), Mk K C f ∧ FnOk P w K mg base CX0 k f fd ps (spD K Ph) ∧ mg x = some (.ref C) ∧ Binds K fd ps []
section
variable {X : Cx} {P : Program} {w : World} {K : PySem.W.Frag} {mg : Str → Option Value} {base : Heap} {k : Nat} {C : Addr} {x m : Str} {Ph : Spec} {dvs : List V} {p pos apos : Pos} {e o : Expr} {es : List Expr} {ta : TE} {t : TA}
theorem pc (c : Cal P w K mg base k x Ph dvs) (hr : Room k X.A) (hg : Gl X x) (ha : PA X (e :: es) t)
    (hdb : (x == ("__debug__" : Str)) = false := by decide) (he : starEach (e :: es) X.env = (false, eval e X.env) :: starEach es X.env := by rfl) (hpl : (backTo pos (starEach es X.env)).any (·.1) = false := by rfl) (hX : X.prog = P ∧ X.w = w ∧ X.K = K ∧ X.mg = mg ∧ X.base = base := by exact ⟨rfl, rfl, rfl, rfl, rfl⟩) :
    PE X (.Call (.Name x p) (e :: es) [] pos) (tCall (spD K Ph) dvs E0 t) := by
  obtain ⟨rfl, rfl, rfl, rfl, rfl⟩ := hX
  obtain ⟨f, fd, ps, ds, F, hm, kp, b, d⟩ := c.ex
  exact pe_call F hr hg hm kp b d pass0 ha hdb he hpl
theorem pc0 (c : Cal P w K mg base k x Ph dvs) (hr : Room k X.A) (hg : Gl X x) (hdb : (x == ("__debug__" : Str)) = false := by decide) (hX : X.prog = P ∧ X.w = w ∧ X.K = K ∧ X.mg = mg ∧ X.base = base := by exact ⟨rfl, rfl, rfl, rfl, rfl⟩) : PE X (.Call (.Name x p) [] [] pos) (tCall (spD K Ph) dvs E0 tNil) := by
  obtain ⟨rfl, rfl, rfl, rfl, rfl⟩ := hX
  obtain ⟨f, fd, ps, ds, F, hm, kp, b, d⟩ := c.ex
  exact pe_call0 F hr hg hm kp b d pass0 hdb
/-- in a def that may raise: W its wish -/
theorem pcX {E : XK} (c : CalX P w K mg base k x Ph dvs) (tk : Takes X (fun cls d _ H => E cls d H)) (hr : Room k X.A) (hg : Gl X x) (ha : PA X (e :: es) t)
    (hdb : (x == ("__debug__" : Str)) = false := by decide) (he : starEach (e :: es) X.env = (false, eval e X.env) :: starEach es X.env := by rfl) (hpl : (backTo pos (starEach es X.env)).any (·.1) = false := by rfl) (hX : X.prog = P ∧ X.w = w ∧ X.K = K ∧ X.mg = mg ∧ X.base = base := by exact ⟨rfl, rfl, rfl, rfl, rfl⟩) :
    PE X (.Call (.Name x p) (e :: es) [] pos) (tCall (spD K Ph) dvs E t) := by
  obtain ⟨rfl, rfl, rfl, rfl, rfl⟩ := hX
  obtain ⟨f, fd, ps, ds, F, hm, kp, b, d⟩ := c.ex
  exact pe_call F hr hg hm kp b d (passes_call tk fun _ _ _ _ h => h) ha hdb he hpl
theorem pk (c : Mak P w K mg base k x C Ph) (hr : Room (k + 1) X.A) (hg : Gl X x) (ha : PA X (e :: es) t)
    (hdb : (x == ("__debug__" : Str)) = false := by decide) (he : starEach (e :: es) X.env = (false, eval e X.env) :: starEach es X.env := by rfl) (hpl : (backTo pos (starEach es X.env)).any (·.1) = false := by rfl) (hX : X.prog = P ∧ X.w = w ∧ X.K = K ∧ X.mg = mg ∧ X.base = base := by exact ⟨rfl, rfl, rfl, rfl, rfl⟩) :
    PE X (.Call (.Name x p) (e :: es) [] pos) (tMake C (spD K Ph) [] E0 t) := by
  obtain ⟨rfl, rfl, rfl, rfl, rfl⟩ := hX
  obtain ⟨f, fd, ps, M, F, hm, b⟩ := c.ex
  exact pe_make M F hr hg hm b .nil pass0 ha hdb he hpl
theorem pm {pl : Sem Bool} (c : Met P w K mg base k C m Ph) (hr : Room k X.A) (he : PE X o ta) (ha : PA X (e :: es) t)
    (hst : starEach (e :: es) X.env = (false, eval e X.env) :: starEach es X.env := by rfl) (hpl : (backTo pos (starEach es X.env)).any (·.1) = false := by rfl)
    (ht : eval (.Call (.Attribute o m apos) (e :: es) [] pos) X.env = (do
      let ov ← eval o X.env
      standAt apos.atName
      let (f, first) ← holding [ov] (getMethod ov m pl)
      callWith pos f first (backTo pos (starEach (e :: es) X.env)) (backToKw pos (keywordEach [] X.env))) := by rfl) (hX : X.prog = P ∧ X.w = w ∧ X.K = K ∧ X.mg = mg ∧ X.base = base := by exact ⟨rfl, rfl, rfl, rfl, rfl⟩) :
    PE X (.Call (.Attribute o m apos) (e :: es) [] pos) (tMeth C m (spD K Ph) [] E0 ta t) := by
  obtain ⟨rfl, rfl, rfl, rfl, rfl⟩ := hX
  obtain ⟨f, fd, ps, hc, hm, F, b⟩ := c.ex
  exact pe_meth (pl := pl) he hc hm F hr b .nil pass0 ha hst hpl ht
theorem pmX {E : XK} {pl : Sem Bool} (c : MetX P w K mg base k C m Ph) (tk : Takes X (fun cls d _ H => E cls d H)) (hr : Room k X.A) (he : PE X o ta) (ha : PA X (e :: es) t)
    (hst : starEach (e :: es) X.env = (false, eval e X.env) :: starEach es X.env := by rfl) (hpl : (backTo pos (starEach es X.env)).any (·.1) = false := by rfl)
    (ht : eval (.Call (.Attribute o m apos) (e :: es) [] pos) X.env = (do
      let ov ← eval o X.env
      standAt apos.atName
      let (f, first) ← holding [ov] (getMethod ov m pl)
      callWith pos f first (backTo pos (starEach (e :: es) X.env)) (backToKw pos (keywordEach [] X.env))) := by rfl) (hX : X.prog = P ∧ X.w = w ∧ X.K = K ∧ X.mg = mg ∧ X.base = base := by exact ⟨rfl, rfl, rfl, rfl, rfl⟩) :
    PE X (.Call (.Attribute o m apos) (e :: es) [] pos) (tMeth C m (spD K Ph) [] E ta t) := by
  obtain ⟨rfl, rfl, rfl, rfl, rfl⟩ := hX
  obtain ⟨f, fd, ps, hc, hm, F, b⟩ := c.ex
  exact pe_meth (pl := pl) he hc hm F hr b .nil (passes_call tk fun _ _ _ _ h => h) ha hst hpl ht
end
section
variable {K : PySem.W.Frag} {E E' : XK} {Xs : XP} {env env' : Env} {S S' : Sto} {ta tb te tx : TE} {t u : TT} {tl : TA} {x y z d e : D} {r : R2} {ds es : List D} {O : Out} {g : TG} {gs : TGs} {a b c : TS} {P : D → Sto → Prop}
theorem ev_app {v : V} {k : Nat} (ha : ED K ta env S (.v v)) (hk : S[k]? = some (v, .l ds)) (h : ED K te env S d) (hl : ds.length < 1000000) (p : P (.v .non) (S.set k (v, .l (ds ++ [d])))) :
    EvE K E Xs (tBM K "list" rAppend ta (tCons te tNil)) env S P := fun H0 B σ H G s Q q =>
  ha H0 B σ H s _ fun w H1 g1 dv => by
    obtain ⟨a0, vs0, rfl, h0, _⟩ := (s.grow g1).lst hk
    obtain rfl := dv.vv
    refine ⟨.inl ⟨rfl, vs0, SqL.of h0⟩, h H0 B σ H1 (s.grow g1) _ fun w H2 g2 dw => ?_⟩
    obtain ⟨a, vs, e, ha, hd, up⟩ := ((s.grow g1).grow g2).mutL (es := ds ++ [d]) hk
    cases e
    have := up (vs ++ [w]) (hd.append (.cons dw .nil))
    exact ⟨a0, vs, w, rfl, rfl, ha, by rw [← hd.length]; exact sz6l hl, q _ _ _ _ ((TK.of g1).trans ((TK.of g2).trans this.1)) this.2 .v p⟩
theorem ev_ext {v : V} {k : Nat} (ha : ED K ta env S (.v v)) (hk : S[k]? = some (v, .l ds)) (h : EL K te env S es) (hl : ds.length + es.length ≤ 1000000) (p : P (.v .non) (S.set k (v, .l (ds ++ es)))) :
    EvE K E Xs (tBM K "list" rExtend ta (tCons te tNil)) env S P := fun H0 B σ H G s Q q =>
  ha H0 B σ H s _ fun w H1 g1 dv => by
    obtain ⟨a0, vs0, rfl, h0, _⟩ := (s.grow g1).lst hk
    obtain rfl := dv.vv
    refine ⟨.inl ⟨rfl, vs0, SqL.of h0⟩, h H0 B σ H1 (s.grow g1) _ fun b ws H2 g2 hn hb hws => ?_⟩
    obtain ⟨a, vs, e, ha, hd, up⟩ := ((s.grow g1).grow g2).mutL (es := ds ++ es) hk
    cases e
    have := up (vs ++ ws) (hd.append hws)
    exact ⟨a0, b, vs, ws, rfl, rfl, ha, hb, by rw [← hd.length, ← hws.length]; exact sz6 hl, q _ _ _ _ ((TK.of g1).trans ((TK.of g2).trans this.1)) this.2 .v p⟩
theorem ev_ins {v : V} {k : Nat} {i : Nat} (ha : ED K ta env S (.v v)) (hk : S[k]? = some (v, .l ds)) (hi : ED K tb env S (.v (.int (i : Nat)))) (h : ED K te env S d) (hl : ds.length < 1000000) (hi2 : i < 1000000) (p : P (.v .non) (S.set k (v, .l (ds.take i ++ [d] ++ ds.drop i)))) :
    EvE K E Xs (tBM K "list" (fun x vs H Q => ∃ (l : Addr) (xs : List V) (i : Int) (y : V), x = .ref l ∧ vs = [.int i, y] ∧ H l = some (.lst xs) ∧ xs.length < sizeLine ∧ 0 ≤ i ∧ i < 2 ^ 63 ∧ Q .non (upd H l (.lst (xs.take i.toNat ++ [y] ++ xs.drop i.toNat)))) ta (tCons tb (tCons te tNil))) env S P := fun H0 B σ H G s Q q =>
  ha H0 B σ H s _ fun w H1 g1 dv => by
    obtain ⟨a0, vs0, rfl, h0, _⟩ := (s.grow g1).lst hk
    obtain rfl := dv.vv
    refine ⟨.inl ⟨rfl, vs0, SqL.of h0⟩, hi H0 B σ H1 (s.grow g1) _ fun wi H2 g2 di => h H0 B σ H2 ((s.grow g1).grow g2) _ fun w H3 g3 dw => ?_⟩
    obtain ⟨a, vs, e, ha, hd, up⟩ := (((s.grow g1).grow g2).grow g3).mutL (es := ds.take i ++ [d] ++ ds.drop i) hk
    cases e
    have := up (vs.take i ++ [w] ++ vs.drop i) (((hd.take i).append (.cons dw .nil)).append (hd.drop i))
    refine ⟨a0, vs, (i : Nat), w, rfl, by rw [di.vv], ha, by rw [← hd.length]; exact sz6l hl, by omega, by omega, ?_⟩
    exact q _ _ _ _ ((TK.of g1).trans ((TK.of g2).trans ((TK.of g3).trans this.1))) (by simpa using this.2) .v p
/-- xs[i] = e -/
theorem s_setitem {v : V} {k : Nat} {i : Int} {j : Nat} (h : ED K te env S d) (ha : ED K ta env S (.v v)) (hk : S[k]? = some (v, .l ds)) (hi : ED K tb env S (.v (.int i))) (hj : ixN ds.length i = some j) (p : O.nx env (S.set k (v, .l (ds.set j d)))) :
    EvS K E Xs (tAsg te (gSub ta tb rSetL)) env S O := fun H0 B σ H G s Z n r k' c =>
  h H0 B σ H s _ fun y H1 g1 dy => ha H0 B σ H1 (s.grow g1) _ fun o H2 g2 dO => hi H0 B σ H2 ((s.grow g1).grow g2) _ fun w H3 g3 dw => by
    have s3 := ((s.grow g1).grow g2).grow g3
    obtain ⟨a, vs, rfl, ha, hd, up⟩ := s3.mutL (es := ds.set j d) hk
    have := up (vs.set j y) (hd.set (dy.mono (TK.of (g2.trans g3))) j)
    rw [dO.vv, dw.vv]
    exact ⟨a, vs, i, j, rfl, rfl, ha, by rw [← hd.length]; exact hj, n env _ σ _ this.2 p⟩
theorem s_app {v : V} {k : Nat} (ha : ED K ta env S (.v v)) (hk : S[k]? = some (v, .l ds)) (h : ED K te env S d) (hl : ds.length < 1000000) (p : O.nx env (S.set k (v, .l (ds ++ [d])))) :
    EvS K E Xs (tDrop (tBM K "list" rAppend ta (tCons te tNil))) env S O := s_dropE (ev_app ha hk h hl p)
theorem s_never (h : False) : EvS K E Xs tNever env S O := h.elim
end
/-- whether data is a whole number -/
def isInt : D → Bool
  | .v (.int _) => true
  | _ => false
def tyOf : D → String
  | .v (.int _) => "int"
  | .v (.bl _) => "bool"
  | .v (.str _) => "str"
  | .v .non => "NoneType"
  | .t _ => "tuple"
  | _ => ""
def Ph_is_whole : Spec := fun ds S R Xs => ∃ d : D, ds = [d] ∧ S = [] ∧ tyOf d ≠ "" ∧ R (dB (isInt d)) []
def Ph_divisor_of : Spec := fun ds S R Xs => ∃ i j : Int, ds = [dI i, dI j] ∧ S = [] ∧ R (dI (Int.gcd i j : Nat)) []
def Ph_ratio : Spec := fun ds S R Xs => ∃ i j : Int, ds = [dI i, dI j] ∧ S = [] ∧ j ≠ 0 ∧ Sz BB (Rat.divInt i j) ∧ R (dR (Rat.divInt i j)) []
def Ph_plus : Spec := fun ds S R Xs => ∃ p q : Rat, ds = [dR p, dR q] ∧ S = [] ∧ Sz BB p ∧ Sz BB q ∧ Sz BB (p + q) ∧ R (dR (p + q)) []
def Ph_minus : Spec := fun ds S R Xs => ∃ p q : Rat, ds = [dR p, dR q] ∧ S = [] ∧ Sz BB p ∧ Sz BB q ∧ Sz BB (p - q) ∧ R (dR (p - q)) []
def Ph_times : Spec := fun ds S R Xs => ∃ p q : Rat, ds = [dR p, dR q] ∧ S = [] ∧ Sz BB p ∧ Sz BB q ∧ Sz BB (p * q) ∧ R (dR (p * q)) []
def Ph_over : Spec := fun ds S R Xs => ∃ p q : Rat, ds = [dR p, dR q] ∧ S = [] ∧ q ≠ 0 ∧ Sz BB p ∧ Sz BB q ∧ Sz BB (p / q) ∧ R (dR (p / q)) []
def Ph_less : Spec := fun ds S R Xs => ∃ p q : Rat, ds = [dR p, dR q] ∧ S = [] ∧ Sz BB p ∧ Sz BB q ∧ R (dB (decide (p < q))) []
end DL
namespace DL
open PySem L2 RZ
abbrev dty : D → String := tyOf
theorem dty_of {K : PySem.W.Frag} {H : Hp} {d : D} {v : V} (h : Dat K H d v) (hn : dty d ≠ "") : TyX K H v (.type (dty d)) := by
  cases h with
  | v => 
    cases v <;> first | exact .base (.non) | exact .base (.bl _) | exact .base (.int _) | exact .base (.str _) | exact absurd rfl hn
  | t a b =>
    rcases a with (a | ⟨o, a⟩) | ⟨o, its, n, hk, hc, _⟩
    · exact .base (.tup a)
    · exact .fTuple a
    · exact .kTuple hk hc
  | s a b => exact absurd rfl hn
theorem rc_isi {K : PySem.W.Frag} {d : D} {n : String} {b : Bool} (hn : dty d ≠ "") (h : PySem.W.kitOne K (.type (dty d)) (.type n) = some b) : RC K (rIsi K) [d, .v (.ty n)] (.v (.bl b)) := fun H vs dl Q q => by
  cases dl with
  | cons a l =>
    cases l with
    | cons a' l =>
      cases l
      rw [a'.vv]
      exact ⟨_, _, _, _, b, rfl, .ty n, dty_of a hn, h, q _ H (Same.refl H) .v⟩
mutual
def pd : D → PyData
  | .v (.int i) => .int i
  | .v (.bl b) => .bool b
  | .v (.str x) => .str x
  | .v _ => .none
  | .t ds => .tuple (pds ds)
  | .s ds => .list (pds ds)
def pds : List D → List PyData
  | [] => []
  | d :: ds => pd d :: pds ds
end
mutual
/-- data that may be compared: no references -/
def pdOk : D → Bool
  | .v (.int _) => true
  | .v (.bl _) => true
  | .v (.str _) => true
  | .v .non => true
  | .v _ => false
  | .t ds => pdsOk ds
  | .s ds => pdsOk ds
def pdsOk : List D → Bool
  | [] => true
  | d :: ds => pdOk d && pdsOk ds
end
mutual
theorem pd_dp {K : PySem.W.Frag} {H : Hp} : ∀ {d : D} {v : V}, Dat K H d v → pdOk d = true → Dp K H v (pd d)
  | .v x, v, h, o => by
    cases h
    cases x <;> first | exact .int _ | exact .bl _ | exact .str _ | exact .non | (simp [pdOk] at o)
  | .t ds, v, h, o => by
    obtain ⟨a, vs, rfl, hs, l⟩ := h.tt
    unfold pd
    exact .tup hs (pds_dp l (by unfold pdOk at o; exact o))
  | .s ds, v, h, o => by
    obtain ⟨a, vs, rfl, hs, l⟩ := h.ss
    unfold pd
    exact .lst hs.sq (pds_dp l (by unfold pdOk at o; exact o))
theorem pds_dp {K : PySem.W.Frag} {H : Hp} : ∀ {ds : List D} {vs : List V}, DatL K H ds vs → pdsOk ds = true → DpAll K H vs (pds ds)
  | [], _, h, _ => by cases h; unfold pds; exact .nil
  | d :: ds, _, h, o => by
    cases h with
    | cons a b =>
      unfold pdsOk at o
      rw [Bool.and_eq_true] at o
      unfold pds
      exact .cons (pd_dp a o.1) (pds_dp b o.2)
end
theorem rd_eqD {K : PySem.W.Frag} {x y : D} {b : Bool} (hx : pdOk x = true) (hy : pdOk y = true) (sx : SeqAt.shaped (pd x) = true) (sy : SeqAt.shaped (pd y) = true) (e : PyData.eqv (pd x) (pd y) = b) : RD K (rEqD K) x y (.v (.bl b)) := fun H v w hv hw Q q =>
  ⟨_, _, pd_dp hv hx, pd_dp hw hy, sx, sy, by rw [e]; exact q _ H (Same.refl H) .v⟩
theorem rd_neD {K : PySem.W.Frag} {x y : D} {b : Bool} (hx : pdOk x = true) (hy : pdOk y = true) (sx : SeqAt.shaped (pd x) = true) (sy : SeqAt.shaped (pd y) = true) (e : PyData.eqv (pd x) (pd y) = b) : RD K (rNeD K) x y (.v (.bl (!b))) := fun H v w hv hw Q q =>
  ⟨_, _, pd_dp hv hx, pd_dp hw hy, sx, sy, by rw [e]; exact q _ H (Same.refl H) .v⟩
theorem pd_dR (q : Rat) : pd (dR q) = .tuple [.int q.num, .int (q.den : Int)] := rfl
theorem sh_dR (q : Rat) : SeqAt.shaped (pd (dR q)) = true := by
  rw [pd_dR]
  rfl
theorem ok_dR (q : Rat) : pdOk (dR q) = true := rfl
theorem eq_dR (p q : Rat) : PyData.eqv (pd (dR p)) (pd (dR q)) = decide (p = q) := by
  rw [pd_dR, pd_dR]
  show (p.num == q.num && ((p.den : Int) == (q.den : Int) && true)) = _
  rw [Bool.and_true]
  by_cases h : p = q
  · subst h; simp
  · rw [decide_eq_false h, ← Bool.not_eq_true, Bool.and_eq_true, beq_iff_eq, beq_iff_eq]
    rintro ⟨h1, h2⟩
    exact h (Rat.ext h1 (by exact_mod_cast h2))
theorem rd_eqR {K : PySem.W.Frag} {p q : Rat} : RD K (rEqD K) (dR p) (dR q) (.v (.bl (decide (p = q)))) := rd_eqD (ok_dR p) (ok_dR q) (sh_dR p) (sh_dR q) (eq_dR p q)
theorem rd_neR {K : PySem.W.Frag} {p q : Rat} : RD K (rNeD K) (dR p) (dR q) (.v (.bl (!decide (p = q)))) := rd_neD (ok_dR p) (ok_dR q) (sh_dR p) (sh_dR q) (eq_dR p q)
theorem okD8 {P : Program} {w : World} {K : PySem.W.Frag} {mg : Str → Option Value} {base : Heap} {x qual : Str} {st : Stmt} {f : Addr} {fd : FuncData} {N ps : List Str} {k : Nat} {Ph : Spec} (F : C8.Fun K x qual st f fd) (S : FnScope N ps (C8.fnScope st)) (len : ∀ ds S R Xs, Ph ds S R Xs → ds.length = ps.length)
    (hbody : ∀ (cdv : Value) (A : Around) (outer : List PySem.Env) (s : Shared) (H : Hp) (E : XK), Room k (A.deeper (PyProof.Rows.envOfC qual (C8.fnScope st) s.heap.objs.size f cdv)) → ∀ ds S R Xs, Ph ds S R Xs →
      ∃ t, PSs (cxOf CX0 P w K mg base N qual (C8.fnScope st) f cdv A outer s H E).nox (C8.fnBody st) t ∧ EvS K E XF t (startE N ds) S (outR R)) : FnOk P w K mg base CX0 (k + 1) f fd ps (spD K Ph) := by
  refine C8.fn0 F S (fun vs H Q E h => ?_) (fun cdv A outer s H vs Q E hr h => ?_)
  · obtain ⟨ds, S, fps, R, Xs, dl, _, _, hPh, _⟩ := h
    rw [← dl.length]; exact len _ _ _ _ hPh
  · obtain ⟨ds, S, fps, R, Xs, dl, so, nd, hPh, hQ, hG⟩ := h
    obtain ⟨t, ht, hv⟩ := hbody cdv A outer s H E hr ds S R Xs hPh
    exact ⟨t, ht, run_body dl so nd good0 hQ hv⟩
section
variable {R : D → Sto → Prop} {Xs : XP} {p q : Rat} {i j : Int}
theorem ph_is_whole : Ph_is_whole [dI i] [] (fun d' S' => d' = dB true ∧ S' = []) XF := ⟨dI i, rfl, rfl, (by show ("int" : String) ≠ ""; decide), rfl, rfl⟩
theorem ph_is_whole' {d : D} (h : tyOf d ≠ "") : Ph_is_whole [d] [] (fun d' S' => d' = dB (isInt d) ∧ S' = []) XF := ⟨d, rfl, rfl, h, rfl, rfl⟩
theorem ph_divisor_of : Ph_divisor_of [dI i, dI j] [] (fun d' S' => d' = dI (Int.gcd i j : Nat) ∧ S' = []) XF := ⟨i, j, rfl, rfl, rfl, rfl⟩
theorem ph_ratio (h0 : j ≠ 0) (s : Sz BB (Rat.divInt i j)) : Ph_ratio [dI i, dI j] [] (fun d' S' => d' = dR (Rat.divInt i j) ∧ S' = []) XF := ⟨i, j, rfl, rfl, h0, s, rfl, rfl⟩
theorem ph_plus (h1 : Sz BB p) (h2 : Sz BB q) (h3 : Sz BB (p + q)) : Ph_plus [dR p, dR q] [] (fun d' S' => d' = dR (p + q) ∧ S' = []) XF := ⟨p, q, rfl, rfl, h1, h2, h3, rfl, rfl⟩
theorem ph_minus (h1 : Sz BB p) (h2 : Sz BB q) (h3 : Sz BB (p - q)) : Ph_minus [dR p, dR q] [] (fun d' S' => d' = dR (p - q) ∧ S' = []) XF := ⟨p, q, rfl, rfl, h1, h2, h3, rfl, rfl⟩
theorem ph_times (h1 : Sz BB p) (h2 : Sz BB q) (h3 : Sz BB (p * q)) : Ph_times [dR p, dR q] [] (fun d' S' => d' = dR (p * q) ∧ S' = []) XF := ⟨p, q, rfl, rfl, h1, h2, h3, rfl, rfl⟩
theorem ph_over (h0 : q ≠ 0) (h1 : Sz BB p) (h2 : Sz BB q) (h3 : Sz BB (p / q)) : Ph_over [dR p, dR q] [] (fun d' S' => d' = dR (p / q) ∧ S' = []) XF := ⟨p, q, rfl, rfl, h0, h1, h2, h3, rfl, rfl⟩
theorem ph_less (h1 : Sz BB p) (h2 : Sz BB q) : Ph_less [dR p, dR q] [] (fun d' S' => d' = dB (decide (p < q)) ∧ S' = []) XF := ⟨p, q, rfl, rfl, h1, h2, rfl, rfl⟩
end
theorem atI_at {α : Type} {xs : List α} {j : Nat} (h : j < xs.length) : atI xs (j : Int) = xs[j]? := by
  have e : ixN xs.length (j : Int) = some j := by unfold ixN; rw [if_pos (by omega), if_pos (by omega)]; rfl
  unfold atI; rw [e]; rfl
section
variable {K : PySem.W.Frag} {x y z : D} {r : List D} {q : Rat}
theorem rd_num : RD K (rIxT K) (dR q) (.v (.int 0)) (.v (.int q.num)) := rd_ixT rfl
theorem rd_den : RD K (rIxT K) (dR q) (.v (.int 1)) (.v (.int (q.den : Int))) := rd_ixT rfl
theorem rd_ix0 : RD K (rIxT K) (.t (x :: r)) (.v (.int 0)) x := rd_ixT (atI_at (j := 0) (by simp))
theorem rd_ix1 : RD K (rIxT K) (.t (x :: y :: r)) (.v (.int 1)) y := rd_ixT (atI_at (j := 1) (by simp))
theorem rd_ix2 : RD K (rIxT K) (.t (x :: y :: z :: r)) (.v (.int 2)) z := rd_ixT (atI_at (j := 2) (by simp))
end
end DL
namespace DL
open PySem L2 RZ
structure Ball where
  p : Rat
  v : Rat
  w : Int
abbrev Wl := Option (Rat × Rat)
structure Wls where
  lo : Wl
  hi : Wl
abbrev dBall (b : Ball) : D := .t [dR b.p, dR b.v, dI b.w]
def dWl : Wl → D
  | none => dN
  | some w => .t [dR w.1, dR w.2]
abbrev dWls (w : Wls) : D := .t [dWl w.lo, dWl w.hi]
abbrev dRow (r : List Ball) : D := .t (r.map dBall)
def dOR : Option Rat → D
  | none => dN
  | some q => dR q
def SB : Nat := 2100
theorem SB_BB : SB ≤ BB := by decide
theorem Sz.up {q : Rat} (h : Sz SB q) : Sz BB q := h.mono SB_BB
def wlAt (t : Rat) : Wl → Wl
  | none => none
  | some w => some (w.1 + w.2 * t, w.2)
def Wls.at (w : Wls) (t : Rat) : Wls := ⟨wlAt t w.lo, wlAt t w.hi⟩
def Ball.at (b : Ball) (t : Rat) : Ball := ⟨b.p + b.v * t, b.v, b.w⟩
def meeting (p v p' v' : Rat) : Option Rat := if v' < v then some ((p' - p) / (v - v')) else none
/-- places and speeds in a row, walls counted -/
def things (row : List Ball) (w : Wls) : List (Rat × Rat) := w.lo.toList ++ row.map (fun b => (b.p, b.v)) ++ w.hi.toList
def better (best : Option Rat) (m : Option Rat) : Option Rat := match m with
  | none => best
  | some t => match best with
    | none => some t
    | some b => if t < b then some t else some b
def leastOf : List (Rat × Rat) → Option Rat → Option Rat
  | a :: b :: r, best => leastOf (b :: r) (better best (meeting a.1 a.2 b.1 b.2))
  | _, best => best
def least (row : List Ball) (w : Wls) : Option Rat := leastOf (things row w) none
inductive Wh where | low | high | no
  deriving DecidableEq
def Wh.str : Wh → Str
  | .low => "low"
  | .high => "high"
  | .no => ""
abbrev dWh (x : Wh) : D := dS x.str
def isAt (w : Wl) (p : Rat) : Bool := match w with
  | none => false
  | some x => decide (x.1 = p)
def wallThere (w : Wls) (p : Rat) : Wh := if isAt w.lo p then .low else if isAt w.hi p then .high else .no
def wallNamed (w : Wls) : Wh → Wl
  | .low => w.lo
  | .high => w.hi
  | .no => none
def comesTo (v : Rat) (w : Wls) : Wh → Bool
  | .low => match w.lo with | some x => decide (v < x.2) | none => false
  | .high => match w.hi with | some x => decide (x.2 < v) | none => false
  | .no => false
structure Group where
  first : Nat
  last : Nat
  wh : Wh
abbrev dGroup (g : Group) : D := .t [dI (g.first : Nat), dI (g.last : Nat), dWh g.wh]
/-- the groups from the k-th ball on; first: where the group at hand begins -/
def groupsFrom (w : Wls) : List Ball → Nat → Nat → List Group
  | [], _, _ => []
  | b :: r, k, first =>
    if (match r with | [] => true | c :: _ => !decide (c.p = b.p)) then
      (if decide (first < k) || comesTo b.v w (wallThere w b.p) then [⟨first, k, wallThere w b.p⟩] else []) ++ groupsFrom w r (k + 1) (k + 1)
    else groupsFrom w r (k + 1) first
def groupsAt (row : List Ball) (w : Wls) : List Group := groupsFrom w row 0 0
def insertR (q : Rat) : List Rat → List Rat
  | [] => [q]
  | x :: r => if x < q then x :: insertR q r else q :: x :: r
def rising (l : List Rat) : List Rat := l.foldl (fun acc q => insertR q acc) []
def backOf (m n v w : Rat) : Rat := (2 * n * (v - w)) / (m + n)
def twoSpeeds (a b : Ball) : List Rat := [a.v - backOf a.w b.w a.v b.v, b.v + backOf b.w a.w a.v b.v]
/-- none: refused -/
def dealt (bs : List Ball) (w : Wl) : Option (List Rat) := match bs, w with
  | [a, b], none => some (twoSpeeds a b)
  | _, _ => if decide (1 < bs.length) && bs.any (fun b => !decide (b.w = (bs.headD ⟨0, 0, 0⟩).w)) then none
    else some (rising (match w with | none => bs.map (·.v) | some x => bs.map fun b => 2 * x.2 - b.v))
def putSpeeds (row : List Ball) (first : Nat) : List Rat → List Ball
  | [] => row
  | q :: qs => match row[first]? with
    | none => row
    | some b => putSpeeds (row.set first ⟨b.p, q, b.w⟩) (first + 1) qs
def rebound1 (w : Wls) (row : List Ball) (g : Group) : Option (List Ball) :=
  (dealt ((row.drop g.first).take (g.last + 1 - g.first)) (wallNamed w g.wh)).map fun qs => putSpeeds row g.first qs
def rebounded (w : Wls) : List Ball → List Group → Option (List Ball)
  | row, [] => some row
  | row, g :: gs => (rebound1 w row g).bind fun r => rebounded w r gs
end DL
namespace DL
open PySem L2 RZ
theorem cut_tail {α : Type} (x : α) (xs : List α) : cut (x :: xs) (some 1) none = xs := by
  unfold cut
  have : HT.sIx (x :: xs).length 0 (some 1) = 1 := by
    have := HT.sIx_nat (x :: xs).length 0 1
    rw [show (some (1 : Int)) = some ((1 : Nat) : Int) from rfl, this, List.length_cons]; omega
  rw [this]
  show (List.drop 1 (x :: xs)).take (HT.sIx (x :: xs).length (x :: xs).length none - 1) = xs
  rw [HT.sIx_none]
  simp
theorem cut_head {α : Type} (x : α) (xs : List α) : cut (x :: xs) none (some 1) = [x] := by
  unfold cut
  have : HT.sIx (x :: xs).length (x :: xs).length (some 1) = 1 := by
    have := HT.sIx_nat (x :: xs).length (x :: xs).length 1
    rw [show (some (1 : Int)) = some ((1 : Nat) : Int) from rfl, this, List.length_cons]; omega
  rw [this, HT.sIx_none]
  simp
def Ph_place_at : Spec := fun ds S R Xs => ∃ (p v t : Rat) (r : List D), ds = [.t (dR p :: dR v :: r), dR t] ∧ S = [] ∧ Sz SB p ∧ Sz SB v ∧ Sz SB t ∧ Sz SB (p + v * t) ∧ R (dR (p + v * t)) []
def Ph_gone_on : Spec := fun ds S R Xs => ∃ (p v t : Rat) (r : List D), ds = [.t (dR p :: dR v :: r), dR t] ∧ S = [] ∧ r.length < 1000 ∧ Sz SB p ∧ Sz SB v ∧ Sz SB t ∧ Sz SB (p + v * t) ∧ R (.t (dR (p + v * t) :: dR v :: r)) []
/-- a wall's, a ball's parts are not too great, here and at t -/
def WlSz (w : Wl) : Prop := ∀ x, w = some x → Sz SB x.1 ∧ Sz SB x.2
def WlsSz (w : Wls) : Prop := WlSz w.lo ∧ WlSz w.hi
def BallSz (b : Ball) : Prop := Sz SB b.p ∧ Sz SB b.v
def RowSz (r : List Ball) : Prop := r.length ≤ 1000 ∧ ∀ b ∈ r, BallSz b
def Ph_walls_at : Spec := fun ds S R Xs => ∃ (w : Wls) (t : Rat), ds = [dWls w, dR t] ∧ S = [] ∧ WlsSz w ∧ Sz SB t ∧ WlsSz (w.at t) ∧ R (dWls (w.at t)) []
def Ph_row_at : Spec := fun ds S R Xs => ∃ (r : List Ball) (t : Rat), ds = [dRow r, dR t] ∧ S = [] ∧ RowSz r ∧ Sz SB t ∧ RowSz (r.map (·.at t)) ∧ R (dRow (r.map (·.at t))) []
def Ph_meeting_moment : Spec := fun ds S R Xs => ∃ (p v p' v' : Rat) (r r' : List D), ds = [.t (dR p :: dR v :: r), .t (dR p' :: dR v' :: r')] ∧ S = [] ∧ Sz SB p ∧ Sz SB v ∧ Sz SB p' ∧ Sz SB v' ∧ (∀ t, meeting p v p' v' = some t → Sz SB t) ∧ R (dOR (meeting p v p' v')) []
/-- neighbours' moments are not too great -/
def MeetSz (ts : List (Rat × Rat)) : Prop := ∀ a b, (a, b) ∈ ts.zip ts.tail → ∀ t, meeting a.1 a.2 b.1 b.2 = some t → Sz SB t
def Ph_least_moment : Spec := fun ds S R Xs => ∃ (r : List Ball) (w : Wls), ds = [dRow r, dWls w] ∧ S = [] ∧ RowSz r ∧ WlsSz w ∧ MeetSz (things r w) ∧ R (dOR (least r w)) []
def Ph_shut_moment : Spec := fun ds S R Xs => ∃ (w : Wls), ds = [dWls w] ∧ S = [] ∧ WlsSz w ∧ (∀ l h t, w.lo = some l → w.hi = some h → meeting l.1 l.2 h.1 h.2 = some t → Sz SB t) ∧ R (dOR (match w.lo, w.hi with | some l, some h => meeting l.1 l.2 h.1 h.2 | _, _ => none)) []
def Ph_wall_there : Spec := fun ds S R Xs => ∃ (w : Wls) (p : Rat), ds = [dWls w, dR p] ∧ S = [] ∧ R (dWh (wallThere w p)) []
def Ph_wall_named : Spec := fun ds S R Xs => ∃ (w : Wls) (x : Wh), ds = [dWls w, dWh x] ∧ S = [] ∧ R (dWl (wallNamed w x)) []
def Ph_comes_to : Spec := fun ds S R Xs => ∃ (b : Ball) (w : Wls) (x : Wh), ds = [dBall b, dWls w, dWh x] ∧ S = [] ∧ BallSz b ∧ WlsSz w ∧ (x = .low → w.lo ≠ none) ∧ (x = .high → w.hi ≠ none) ∧ R (dB (comesTo b.v w x)) []
def Ph_groups_at : Spec := fun ds S R Xs => ∃ (r : List Ball) (w : Wls), ds = [dRow r, dWls w] ∧ S = [] ∧ RowSz r ∧ WlsSz w ∧ ∀ x, R (.v x) [(x, .l ((groupsAt r w).map dGroup))]
def Ph_rising : Spec := fun ds S R Xs => ∃ (v : V) (l : List Rat), ds = [.v v] ∧ S = [(v, .l (l.map dR))] ∧ l.length ≤ 1000 ∧ (∀ q ∈ l, Sz SB q) ∧ ∀ x, R (.v x) [(x, .l ((rising l).map dR))]
def Ph_two_speeds : Spec := fun ds S R Xs => ∃ (a b : Ball), ds = [dBall a, dBall b] ∧ S = [] ∧ Sz SB a.v ∧ Sz SB b.v ∧ (1 ≤ a.w ∧ a.w ≤ 1000) ∧ (1 ≤ b.w ∧ b.w ≤ 1000) ∧ (∀ q ∈ twoSpeeds a b, Sz SB q) ∧ ∀ x, R (.v x) [(x, .l ((twoSpeeds a b).map dR))]
section
variable {R : D → Sto → Prop} {Xs : XP} {p v t p' v' q : Rat} {r r' : List D}
theorem ph_place_at (h1 : Sz SB p) (h2 : Sz SB v) (h3 : Sz SB t) (h4 : Sz SB (p + v * t)) : Ph_place_at [.t (dR p :: dR v :: r), dR t] [] (fun d' S' => d' = dR (p + v * t) ∧ S' = []) XF := ⟨p, v, t, r, rfl, rfl, h1, h2, h3, h4, rfl, rfl⟩
theorem ph_gone_on (h0 : r.length < 1000) (h1 : Sz SB p) (h2 : Sz SB v) (h3 : Sz SB t) (h4 : Sz SB (p + v * t)) : Ph_gone_on [.t (dR p :: dR v :: r), dR t] [] (fun d' S' => d' = .t (dR (p + v * t) :: dR v :: r) ∧ S' = []) XF := ⟨p, v, t, r, rfl, rfl, h0, h1, h2, h3, h4, rfl, rfl⟩
theorem ph_meeting_moment (h1 : Sz SB p) (h2 : Sz SB v) (h3 : Sz SB p') (h4 : Sz SB v') (h5 : ∀ t, meeting p v p' v' = some t → Sz SB t) : Ph_meeting_moment [.t (dR p :: dR v :: r), .t (dR p' :: dR v' :: r')] [] (fun d' S' => d' = dOR (meeting p v p' v') ∧ S' = []) XF := ⟨p, v, p', v', r, r', rfl, rfl, h1, h2, h3, h4, h5, rfl, rfl⟩
end
/-- sizes of the steps between -/
theorem sub_up {p q : Rat} (h1 : Sz SB p) (h2 : Sz SB q) : Sz BB (p - q) := (Sz.sub h1 h2).mono (by decide)
theorem mul_up {p q : Rat} (h1 : Sz SB p) (h2 : Sz SB q) : Sz BB (p * q) := (Sz.mul h1 h2 (by decide)).mono (by decide)
end DL
namespace DL
open PySem L2 RZ PyProof.Rows
theorem meets_enumT {v : Value} {o : Obj} {H : Heap → Prop} (B : Begins v o H) :
    Meets (Builtin.«enumerate.__new__» ⟨[.type "enumerate", v], []⟩) (fun _ R s => H s.heap ∧
      R (.ok (.ret (.ref (s.heap.push o).objs.size))) { s with heap := (s.heap.push o).push { cls := .type "enumerate", data := .fields #[.none, .bool false, .ref s.heap.objs.size, rawInt 0, .none, .none] } }) :=
  .of_wp fun prog w A R s h => by
    obtain ⟨hp, g, d, tk, os⟩ := s; obtain ⟨h1, h⟩ := h
    have hsub := sub_enumerate
    have q1 : ∀ {A' : Around} {E : Value → Shared → Prop} {Q : Value → Shared → Prop}, Q (.ref hp.objs.size) ⟨hp.push o, g, d, tk, os⟩ → wpAny (model prog w) A' (pyIter v) Q E ⟨hp, g, d, tk, os⟩ :=
      fun q => B.iter prog w _ _ ⟨hp, g, d, tk, os⟩ _ h1 q
    wp_walk using q1
    refine wpAny_stack_any fun st => wpAny_pure ?_
    split
    · rename_i c _ _ _ _ _
      cases (c == Value.type "enumerate")
      · wp_walk using q1
        exact ⟨_, rfl, h⟩
      · wp_walk using q1
        exact ⟨_, rfl, h⟩
    · wp_walk using q1
      exact ⟨_, rfl, h⟩
theorem call_enumT {prog : Program} {w : World} {A : Around} {E : Value → Shared → Prop} {s : Shared} {l : Addr} {items : Array Value} {Q : Value → Shared → Prop} (hL : s.heap.IsTuple l items)
    (h : ∀ h', IsEnum h' (s.heap.objs.size + 1) s.heap.objs.size 0 .none → h'.IsTupleIter s.heap.objs.size l 0 → h'.objs.size = s.heap.objs.size + 2 →
      (∀ b o, s.heap.get? b = some o → h'.get? b = some o) → Q (.ref (s.heap.objs.size + 1)) { s with heap := h' }) :
    wpAny (model prog w) A (call (.type "enumerate") [.ref l]) Q E s := by
  refine callType_new F.called_enumerate (by decide) (F.typeCall_enumerate_1 _) (F.newCall_enumerate_1 _) (fun obj => F.args_object_init_2 obj _) F.entry_enumerate_new
    (meets_enumT (begins_tuple l items)) ⟨hL, ?_⟩
  have hz : (s.heap.push { cls := .type "tuple_iterator", data := .fields #[.ref l, .int 0 0] }).objs.size = s.heap.objs.size + 1 := Heap.size_push ..
  show _ ∧ _
  rw [hz]
  have he : IsEnum ((s.heap.push { cls := .type "tuple_iterator", data := .fields #[.ref l, .int 0 0] }).push
      { cls := .type "enumerate", data := .fields #[.none, .bool false, .ref s.heap.objs.size, rawInt 0, .none, .none] }) (s.heap.objs.size + 1) s.heap.objs.size 0 .none := by
    have := Heap.get?_push_size (s.heap.push { cls := .type "tuple_iterator", data := .fields #[.ref l, .int 0 0] })
      (o := { cls := .type "enumerate", data := .fields #[.none, .bool false, .ref s.heap.objs.size, rawInt 0, .none, .none] }) rfl
    rw [hz] at this; exact this
  refine ⟨⟨_, he, rfl⟩, h _ he ⟨_, Heap.get?_push_of_some _ (Heap.get?_push_size _ rfl), rfl, rfl⟩ (by rw [Heap.size_push, hz]) fun b o x => Heap.get?_push_of_some _ (Heap.get?_push_of_some _ x)⟩
/-- the tuple at a, each item in a new pair -/
def IteT (K : PySem.W.Frag) (a : Addr) : It :=
  ⟨fun i H => ∃ (xs : List V) (x : V), SqT K H a xs ∧ xs[i]? = some x, fun i H v H' => ∃ T x, v = .ref T ∧ H T = none ∧ H' = upd H T (.tup [.int (i : Nat), x]) ∧ ∀ xs, SqT K H a xs → xs[i]? = some x, fun i H => ∃ xs : List V, SqT K H a xs ∧ xs.length ≤ i⟩
theorem turn_enumT {P : Program} {w : World} {K : PySem.W.Frag} {elts : List Expr} {kk : Nat} {tpos : Pos} (a e it : Addr) :
    Turn P w K (.Tuple elts kk tpos) (IteT K a) [e, it] e (fun i h => (∃ old, IsEnum h e it ((i : Nat) : Int) old) ∧ h.IsTupleIter it a i ∧ e ≠ it ∧ a ≠ it ∧ e ≠ a) where
  mem := by simp
  obj := fun i h st b hb => by
    obtain ⟨⟨old, he⟩, ⟨o, ho, hc, hd⟩, _⟩ := st
    have e' : b = e ∨ b = it := by simpa using hb
    rcases e' with z | z
    · rw [z]; exact ⟨_, he, fun v q => nomatch q⟩
    · rw [z]; exact ⟨o, ho, fun v q => by rw [hd] at q; cases q⟩
  keep := fun i h h' st k => let ⟨⟨old, he⟩, hi, hne⟩ := st; ⟨⟨old, k e (by simp) _ he⟩, hi.at fun o q => k it (by simp) o q, hne⟩
  item := by
    intro X hP hw hK hc i pins s σ H E I hf st hg
    subst hP hw hK
    obtain ⟨⟨old, he⟩, hit, hne, hai, hea⟩ := st
    obtain ⟨xs, x, hq, hx⟩ := hg
    obtain ⟨its, rv, p, hz⟩ := I.tuple hq
    obtain ⟨u, hu, ru⟩ := rv.get hx
    have hel : e < s.heap.objs.size := Heap.lt_size he
    have hil : it < s.heap.objs.size := by obtain ⟨_, q, _⟩ := hit; exact Heap.lt_size q
    have D := Draws.tuple (prog := X.prog) (w := X.w) (A := X.A.in1) (show X.A.in1.handled = none from I.ok.hd hc) it a hai its.toArray
    have hlt : i < its.toArray.size := by
      have := (List.getElem?_eq_some_iff.mp hu).1
      simpa using this
    refine wpAny_pyNext_enum_itemD D he ⟨hit, p⟩ hlt hne (by simp; exact ⟨hne, hea⟩) fun y h' tk hy ho hit' hT hsz hk => ?_
    have ey : y = u := by
      have : its.toArray[i]? = some u := by simpa using hu
      rw [hy] at this; cases this; rfl
    subst ey
    refine ⟨_, rfl, wpAny_letOwnedTupleGo_enum (s := { s with heap := h', toks := tk + 1 }) ho fun h'' he' sb => ?_⟩
    have hT2 : h''.get? s.heap.objs.size = some { cls := .type "tuple", data := .seq #[.int i tk, y] } := (sb.2 _ (Nat.ne_of_gt hel)).trans hT
    have new : ObjOk X.prog X.w (upd H s.heap.objs.size (.tup [.int (i : Nat), x])) h'' s.heap.objs.size (.tup [.int (i : Nat), x]) :=
      ⟨by show 2 ≤ sizeLine; decide, [.int i tk, y], .cons ⟨_, rfl⟩ (.cons ru .nil), ⟨_, hT2, rfl, _, rfl⟩⟩
    have I1 : Inv X pins σ (upd H s.heap.objs.size (.tup [.int (i : Nat), x])) { s with heap := h'', toks := tk + 1 } :=
      I.turnedNew (ch := [e, it]) (fun b ob hb q => (sb.2 b (fun z => hb (by simp [z]))).trans (hk b ob (fun z => hb (by simp [z])) (fun z => hb (by simp [z])) q)) hf (Nat.le_refl _) new
    refine ⟨.ref s.heap.objs.size, _, I1, rfl, ⟨_, x, rfl, I.hok.fresh (Nat.le_refl _), rfl, fun ys hy => by rw [I.tuple_inj hy hq]; exact hx⟩, ⟨⟨y, ?_⟩, hit'.1.at fun o q => (sb.2 it (Ne.symm hne)).trans q, hne, hai, hea⟩, fun b hb => ?_⟩
    · have e1 : ((i + 1 : Nat) : Int) = (i : Int) + 1 := by omega
      rw [e1]; exact he'
    · have hb' : b < s.heap.objs.size := by
        have e' : b = e ∨ b = it := by simpa using hb
        rcases e' with z | z
        · rw [z]; exact hel
        · rw [z]; exact hil
      rw [upd_ne (Nat.ne_of_lt hb')]
      exact (hf b hb).1
  done := by
    intro X hP hw hK hc i pins s σ H E I hf st hg
    subst hP hw hK
    obtain ⟨⟨old, he⟩, hit, hne, hai, hea⟩ := st
    obtain ⟨xs, hq, hx⟩ := hg
    obtain ⟨its, rv, p, hz⟩ := I.tuple hq
    obtain ⟨f0, f1, f2, f3, f4, f5⟩ := hf it (by simp)
    have hl := rv.length
    have hT : s.TypeIs (.ref e) "enumerate" := ⟨_, he, rfl⟩
    have hnone : its.toArray[i]? = none := by simp; omega
    unfold pyNext
    refine wpAny_bind (wpAny_attempt (wpAny_callSpecial?_slot (name := Str.ofString "__next__") hT F.slot_enumerate_next
      (wpAny_call_entry F.slot_enumerate_next hT F.entry_enumerate_next ?_ (F.args_enumerate_next_1 _))))
    show wpAny _ _ (field (.ref e) 2 >>= _) _ _ _
    refine wpAny_bind (wpAny_field he rfl (x := .ref it) rfl ?_)
    refine wpAny_bind (nextOf_tuple_end (show X.A.in1.handled = none from I.ok.hd hc) hit p hnone fun h' x eb hx' => ?_)
    obtain ⟨o, ho, hcc⟩ := hx'
    refine wpAny_bind (wpAny_isInstance (T := "StopIteration") (b := true) ⟨o, ho, hcc⟩ isSubtype_stop ?_)
    exact wpAny_pure ⟨rfl, I.turned (t' := s.toks) (fun b o hb q => eb b o hb q) f0 f1 f3 f4 f5⟩
  self := fun A i s Q E st h => let ⟨⟨_, he⟩, _⟩ := st; wpAny_pyIter_enum he h
/-- enumerate of a list, of a tuple -/
def iEnumA (K : PySem.W.Frag) (ta : TA) : TI := fun σ H R => ta σ H fun vs H1 => ∃ a xs, vs = [.ref a] ∧ ((SqL K H1 a xs ∧ R (Ite K a) H1) ∨ (SqT K H1 a xs ∧ R (IteT K a) H1))
theorem pi_enumA {X : Cx} {e : Expr} {ta : TA} {p pos tpos : Pos} {elts : List Expr} {kk : Nat} (hg : Gl X "enumerate") (hm : X.mg "enumerate" = none) (ha : PA X [e] ta) (hs : starEach [e] X.env = [(false, eval e X.env)] := by rfl) :
    PI X (.Tuple elts kk tpos) (.Call (.Name "enumerate" p) [e] [] pos) (iEnumA X.K ta) := by
  refine ⟨fun pins s σ H R I h => ?_⟩
  refine Call_ (ld_blt I hg hm boot_enumerate (PyProof.Rows.callWith_type1 (thn (ha.run pos pins s σ H _ I h) fun us s1 ⟨vs, H1, I1, r1, q1⟩ => ?_) hs rfl))
  obtain ⟨a, xs, ex, q1⟩ := q1
  subst ex
  cases r1 with
  | cons r rr =>
    cases rr
    cases r
    have fr : ∀ b, b ∈ [s1.heap.objs.size + 1, s1.heap.objs.size] → FpOk X pins H1 b := fun b hb => by
      have e' : b = s1.heap.objs.size + 1 ∨ b = s1.heap.objs.size := by simpa using hb
      have hle : s1.heap.objs.size ≤ b := by
        rcases e' with z | z
        · rw [z]; exact Nat.le_add_right _ _
        · rw [z]; exact Nat.le_refl _
      exact I1.fpOk hle (I1.hok.fresh hle)
    rcases q1 with ⟨hq, q⟩ | ⟨hq, q⟩
    · obtain ⟨its, rv, p', hz⟩ := I1.list hq
      refine call_enumerate_list p'.isList fun h' he hit hsz hk => wpAny_pyIter_enum he ?_
      have I2 : Inv X pins σ H1 { s1 with heap := h' } := I1.kept (t' := s1.toks) hk
      exact ⟨s1.heap.objs.size + 1, [s1.heap.objs.size + 1, s1.heap.objs.size], _, _, H1, rfl, I2, turn_enum a (s1.heap.objs.size + 1) s1.heap.objs.size, ⟨⟨.none, he⟩, hit, Nat.succ_ne_self _⟩, fr, q⟩
    · obtain ⟨its, rv, p', hz⟩ := I1.tuple hq
      have hal : a < s1.heap.objs.size := by obtain ⟨o, ho, _⟩ := id p'; exact Heap.lt_size ho
      refine call_enumT (items := its.toArray) p' fun h' he hit hsz hk => wpAny_pyIter_enum he ?_
      have I2 : Inv X pins σ H1 { s1 with heap := h' } := I1.kept (t' := s1.toks) hk
      exact ⟨s1.heap.objs.size + 1, [s1.heap.objs.size + 1, s1.heap.objs.size], _, _, H1, rfl, I2, turn_enumT a (s1.heap.objs.size + 1) s1.heap.objs.size, ⟨⟨.none, he⟩, hit, Nat.succ_ne_self _, Nat.ne_of_lt hal, fun z => absurd hal (by rw [← z]; exact Nat.not_lt.mpr (Nat.le_succ _))⟩, fr, q⟩
section
variable {K : PySem.W.Frag} {E : XK} {Xs : XP} {env : Env} {S : Sto} {tl : TA} {P : List D → Sto → (Sto → Prop) → Prop} {ds : List D}
theorem walk_enumT {a : Addr} {xs : List V} : Walk (IteT K a) xs.length (fun H => SqT K H a xs) (fun i H x H' => ∃ T w, x = .ref T ∧ H T = none ∧ H' = upd H T (.tup [.int (i : Nat), w]) ∧ xs[i]? = some w) := by
  refine ⟨fun i H hi q1 => ?_, fun H q1 => ⟨xs, q1, Nat.le_refl _⟩, fun i H v H' hi q1 y => ?_⟩
  · exact ⟨xs, xs[i], q1, by simp [hi]⟩
  · obtain ⟨T, x, h1, h2, h3, h4⟩ := y
    exact ⟨T, x, h1, h2, h3, h4 xs q1⟩
theorem ei_enumAL (h : EvA K E Xs tl env S fun as S1 => ∃ x ds, as = [x] ∧ Lst S1 x ds ∧ P (enumD ds) S1 fun S' => Lst S' x ds) : EvI K E Xs (iEnumA K tl) env S P := fun H0 B σ H G s R q =>
  h H0 B σ H G s _ fun as S1 vs H1 k s1 dv ⟨x, ds, e, l1, p⟩ => by
    subst e
    cases dv with
    | cons a b =>
      cases b
      obtain ⟨p1, rfl⟩ := l1.ref s1 a
      obtain ⟨xs, q1, m1⟩ := l1.at s1 a
      refine ⟨p1, xs, rfl, .inl ⟨q1, q _ S1 _ (Ite K p1) _ _ H1 p s1 k walk_enumL (fun _ _ _ _ s' k' l' => l'.at s' (a.mono k')) fun i Ha x Hb hi y _ k => ?_⟩⟩
      obtain ⟨T, w, rfl, hT, rfl, ⟨d2, e2, dd2⟩⟩ := y
      exact ⟨same_upd hT, _, enumD_get e2, .t (.inl (.inl upd_same)) (.cons .v (.cons (dd2.mono (TK.of (same_upd hT))) .nil))⟩
theorem ei_enumAT (h : EA K tl env S [.t ds]) (p : P (enumD ds) S fun _ => True) : EvI K E Xs (iEnumA K tl) env S P := fun H0 B σ H G s R q =>
  h H0 B σ H s _ fun vs H1 g1 dv => by
    cases dv with
    | cons a b =>
      cases b
      obtain ⟨p1, xs, rfl, s1, l1⟩ := a.tt
      refine ⟨p1, xs, rfl, .inr ⟨s1, q _ S _ (IteT K p1) _ _ H1 p (s.grow g1) (TK.of g1) (by rw [enumD_len, l1.length]; exact walk_enumT (xs := xs)) (fun _ _ _ _ _ k _ => k.sq s1) fun i Ha x Hb hi y _ k => ?_⟩⟩
      obtain ⟨T, w, rfl, hT, rfl, hx⟩ := y
      obtain ⟨d1, e1, dd1⟩ := (l1.mono k).got hx
      exact ⟨same_upd hT, _, enumD_get e1, .t (.inl (.inl upd_same)) (.cons .v (.cons (dd1.mono (TK.of (same_upd hT))) .nil))⟩
end
end DL
namespace DL
open PySem L2 RZ
section
variable (K : PySem.W.Frag) {X : Cx}
theorem k_ixT (h : X.K = K := by rfl) : IxR X (rIxT K) := by subst h; exact ix_tup
theorem k_ixL (h : X.K = K := by rfl) : IxR X (rIxL K) := by subst h; exact ix_list
theorem k_eqD (hu : X.A.units + 64 < cLine) (h : X.K = K := by rfl) : OpR X (compareOp .Eq) (rEqD K) := by subst h; exact op_eqD hu
theorem k_neD (hu : X.A.units + 64 < cLine) (h : X.K = K := by rfl) : OpR X (compareOp .NotEq) (rNeD K) := by subst h; exact op_neD hu
theorem k_catA (h : X.K = K := by rfl) : OpR X (binaryOp .Add) (rCatA K) := by subst h; exact op_catA
theorem k_slT (h : X.K = K := by rfl) : SlR X (rSlA K) := by subst h; exact sl_tupA
theorem k_slL (h : X.K = K := by rfl) : SlR X (rSlL K) := by subst h; exact sl_list
theorem k_len (h : X.K = K := by rfl) : CallR X (.builtin "len") (fun xs H Q => ∃ p ys, xs = [.ref p] ∧ (SqL K H p ys ∨ SqT K H p ys) ∧ Q (.int ys.length) H) := by subst h; exact call_len_seq
theorem k_list (h : X.K = K := by rfl) : CallR X (.type "list") (fun xs H Q => ∃ p ys, xs = [.ref p] ∧ (SqL K H p ys ∨ SqT K H p ys) ∧ ∀ l, H l = none → Q (.ref l) (upd H l (.lst ys))) := by subst h; exact call_list_of
theorem k_tuple (h : X.K = K := by rfl) : CallR X (.type "tuple") (fun xs H Q => ∃ p ys, xs = [.ref p] ∧ ((SqL K H p ys ∧ ∀ l, H l = none → Q (.ref l) (upd H l (.tup ys))) ∨ (SqT K H p ys ∧ Q (.ref p) H))) := by subst h; exact call_tuple_of
theorem k_any (hc : X.calm = true) (h : X.K = K := by rfl) : CallR X (.builtin "any") (rAny K) := by subst h; exact cr_any hc
theorem k_all (hc : X.calm = true) (h : X.K = K := by rfl) : CallR X (.builtin "all") (rAll K) := by subst h; exact cr_all hc
theorem k_sum (hc : X.calm = true) (h : X.K = K := by rfl) : CallR X (.builtin "sum") (rSum K) := by subst h; exact cr_sum hc
theorem k_isi (h : X.K = K := by rfl) : CallR X (.builtin "isinstance") (rIsi K) := by subst h; exact call_isi
theorem k_fld {e : Expr} {f : Str} {pos : Pos} {ta : TE} (he : PE X e ta) (hb : attributeBase e f X.env (eval e X.env) = eval e X.env) (h : X.K = K := by rfl) : PE X (.Attribute e f pos) (tFld K ta f) := by subst h; exact pe_fld he hb
end
theorem k_gtup (K : PySem.W.Frag) (n : Nat) {X : Cx} {es : List Expr} {k : Nat} {pos : Pos} {t : TGs} (hc : X.calm = true) (h : PGs X es t) (hK : X.K = K := by rfl) (hn : (assignEach es X.env).length = n := by rfl) (hst : (assignEach es X.env).findIdx? (·.1) = none := by rfl) : PG X (.Tuple es k pos) (gTup K n t) := by subst hK; exact pg_tup hc h hn hst
end DL
namespace DL
open PySem L2 RZ
section
variable {K : PySem.W.Frag} {E : XK} {Xs : XP} {env env' : Env} {S : Sto} {ta tb te tx : TE} {t u : TT} {tl : TA} {x y z d e : D} {ds es its : List D} {g : TG} {wi : TI} {O : Out} {a b c : TS}
/-- a comprehension over data da a, a of l; f: what comes of each, none where it is left out -/
theorem el_lcT {α : Type} {l : List α} {da : α → D} {vs : List Nat} {f : α → Option D} (hi : EI K wi env S (l.map da)) (hz : l.length < 1000000)
    (h : ∀ a ∈ l, ∃ env2 b, EvGc K vs g (wipeE env vs) (da a) env2 ∧ ET K t env2 S b ∧ (b = true → ∃ y, f a = some y ∧ ED K te env2 S y) ∧ (b = false → f a = none)) : EL K (tLc wi g t te vs) env S (l.filterMap f) := fun H0 B σ H s Q q =>
  hi H0 B σ H s _ fun J W Y H1 g1 w gk y => fun p hp => by
    have s1 := s.grow g1
    have SB : ∀ {H' : Hp}, (∀ a o, a ≠ p → H1 a = some o → H' a = some o) → Same H1 H' := fun {H'} h a o e => h a o (ne_of_none e hp) e
    rw [List.length_map] at w y
    refine lc_it w (fun i H' => (∀ a o, a ≠ p → H1 a = some o → H' a = some o) ∧ ∃ ws, H' p = some (.lst ws) ∧ DatL K H' ((l.take i).filterMap f) ws) ⟨fun a o ne e => by rw [upd_ne ne]; exact e, [], upd_same, by simpa using DatL.nil⟩ (fun i H' hi ⟨k', _⟩ => gk H' (SB k')) ?_ fun H' ⟨k', ws, hw, dw⟩ => ?_
    · rintro i x Ha Hb hi ⟨k', ws, hw, dw⟩ yy
      obtain ⟨g2, d, hd, dd⟩ := y i Ha x Hb hi yy (gk Ha (SB k')) (SB k')
      rw [List.getElem?_map] at hd
      obtain ⟨a0, ha0, rfl⟩ := Option.map_eq_some_iff.mp hd
      obtain ⟨env2, b, hg, ht, hb1, hb0⟩ := h a0 (List.mem_of_getElem? ha0)
      have tk : l.take (i + 1) = l.take i ++ [a0] := by rw [List.take_succ, ha0]; rfl
      have s3 := wipe_ok (vs := vs) (s1.grow (fun a o e => g2 _ _ (SB k' a o e) : Same H1 Hb))
      refine hg H0 B S (wipe σ vs) Hb x s3 dd _ fun σ2 w2 s4 => ⟨by rw [w2, wipe_wipe], ?_⟩
      refine ht H0 B σ2 Hb s4 _ fun H5 g5 => ?_
      cases b with
      | true =>
        obtain ⟨y0, fy, he⟩ := hb1 rfl
        refine he H0 B σ2 H5 (s4.grow g5) _ fun v H6 g6 dv => ?_
        have gg : Same Ha H6 := fun a o e => g6 _ _ (g5 _ _ (g2 _ _ e))
        have tk6 : TK H6 (upd H6 p (.lst (ws ++ [v]))) := tk_upd (gg _ _ hw) trivial
        refine ⟨ws, gg _ _ hw, ?_, fun a o ne e => by rw [upd_ne ne]; exact gg _ _ (k' a o ne e), _, upd_same, ?_⟩
        · rw [← dw.length]
          refine sz6l (Nat.lt_of_le_of_lt (Nat.le_trans (List.length_filterMap_le _ _) (List.length_take_le _ _)) (Nat.lt_of_lt_of_le hi (Nat.le_of_lt hz)))
        · rw [tk, List.filterMap_append]
          have : List.filterMap f [a0] = [y0] := by simp [fy]
          rw [this]
          exact ((dw.mono (TK.of gg)).append (.cons dv .nil)).mono tk6
      | false =>
        have f0 := hb0 rfl
        refine ⟨fun a o ne e => g5 _ _ (g2 _ _ (k' a o ne e)), ws, g5 _ _ (g2 _ _ hw), ?_⟩
        rw [tk, List.filterMap_append]
        have : List.filterMap f [a0] = [] := by simp [f0]
        rw [this, List.append_nil]
        exact dw.mono (TK.of (fun a o e => g5 _ _ (g2 _ _ e)))
    · rw [List.take_length] at dw
      exact q p ws H' (g1.trans (SB k')) (g1.free hp) hw dw
theorem el_mapT {α : Type} {l : List α} {da : α → D} {vs : List Nat} {f : α → D} (hi : EI K wi env S (l.map da)) (hz : l.length < 1000000)
    (h : ∀ a ∈ l, ∃ env2, EvGc K vs g (wipeE env vs) (da a) env2 ∧ ED K te env2 S (f a)) : EL K (tLc wi g tYes te vs) env S (l.map f) := by
  have := el_lcT (f := fun d => some (f d)) (g := g) (t := tYes) (te := te) (vs := vs) hi hz fun d hd => by
    obtain ⟨env2, h1, h2⟩ := h d hd
    exact ⟨env2, true, h1, et_yes, fun _ => ⟨_, rfl, h2⟩, fun z => nomatch z⟩
  rw [List.filterMap_eq_map'] at this
  exact this
/-- if, known -/
theorem s_ifT {q : Bool} (h : ET K t env S q) (e : q = true) (h1 : EvS K E Xs a env S O) : EvS K E Xs (tIfS t a c) env S O := s_if h (fun _ => h1) (fun z => by rw [e] at z; cases z)
theorem s_ifF {q : Bool} (h : ET K t env S q) (e : q = false) (h1 : EvS K E Xs c env S O) : EvS K E Xs (tIfS t a c) env S O := s_if h (fun z => by rw [e] at z; cases z) (fun _ => h1)
theorem et_andF {p : Bool} (h1 : ET K t env S p) (e : p = false) : ET K (tAnd t u) env S false := et_is (et_and (b := false) h1 fun z => by rw [e] at z; cases z) (by rw [e]; rfl)
theorem et_andT {p q : Bool} (h1 : ET K t env S p) (e : p = true) (h2 : ET K u env S q) : ET K (tAnd t u) env S q := et_is (et_and h1 fun z => h2) (by rw [e]; rfl)
theorem et_orT {p : Bool} (h1 : ET K t env S p) (e : p = true) : ET K (tOr t u) env S true := et_is (et_or (b := false) h1 fun z => by rw [e] at z; cases z) (by rw [e]; rfl)
theorem et_orF {p q : Bool} (h1 : ET K t env S p) (e : p = false) (h2 : ET K u env S q) : ET K (tOr t u) env S q := et_is (et_or h1 fun z => h2) (by rw [e]; rfl)
theorem ed_andT {p q : Bool} (h1 : ED K ta env S (.v (.bl p))) (e : p = true) (h2 : ED K tb env S (.v (.bl q))) : ED K (tAndV ta tb) env S (.v (.bl q)) := ed_is (ed_and h1 fun z => h2) (by rw [e]; rfl)
theorem ed_andF {p : Bool} (h1 : ED K ta env S (.v (.bl p))) (e : p = false) : ED K (tAndV ta tb) env S (.v (.bl false)) := ed_is (ed_and (b := false) h1 fun z => by rw [e] at z; cases z) (by rw [e]; rfl)
end
/-- return, the store let go; a part of it kept -/
theorem s_ret0 {K : PySem.W.Frag} {E : XK} {Xs : XP} {env : Env} {S : Sto} {te : TE} {d : D} {O : Out} (h : ED K te env S d) (p : O.rt d []) : EvS K E Xs (tRet te) env S O := fun H0 B σ H G s Z n r k c =>
  h H0 B σ H s _ fun v H1 g1 dv => r d [] v env σ H1 (Stt.drop (S := S) (S' := []) (by rw [List.append_nil]; exact s.grow g1)) dv p
theorem s_retF {K : PySem.W.Frag} {E : XK} {Xs : XP} {env : Env} {S F : Sto} {te : TE} {d : D} {O : Out} (h : ED K te env (F ++ S) d) (p : O.rt d S) : EvS K E Xs (tRet te) env (F ++ S) O := fun H0 B σ H G s Z n r k c =>
  h H0 B σ H s _ fun v H1 g1 dv => r d S v env σ H1 (Stt.drop (S := F) (S' := S) (s.grow g1)) dv p
/-- return of a new list, the store let go -/
theorem s_retL0 {K : PySem.W.Frag} {E : XK} {Xs : XP} {env : Env} {S : Sto} {te : TE} {ds : List D} {O : Out} (h : EL K te env S ds) (p : ∀ x, O.rt (.v x) [(x, .l ds)]) : EvS K E Xs (tRet te) env S O := fun H0 B σ H G s Z n r k c =>
  h H0 B σ H s _ fun a vs H1 g1 hn ha hl => r _ _ _ env σ H1 (Stt.fore (S := [(.ref a, .l ds)]) (S' := S) (s.newL g1 hn ha hl)) .v (p _)
/-- return of what is at the k-th place of the store, else let go -/
theorem s_retK {K : PySem.W.Frag} {E : XK} {Xs : XP} {env : Env} {S : Sto} {te : TE} {d : D} {O : Out} {p : V × Th} {F G' : Sto} (h : ED K te env S d) (e : S = F ++ p :: G') (q : O.rt d [p]) : EvS K E Xs (tRet te) env S O := fun H0 B σ H G s Z n r k c =>
  h H0 B σ H s _ fun v H1 g1 dv => r d [p] v env σ H1 (by
    subst e
    exact Stt.fore (S := [p]) (S' := G') (Stt.drop (S := F) (S' := [p] ++ G') (s.grow g1))) dv q
/-- things of a row, with what stands behind place and speed -/
def dX (x : Rat × Rat × List D) : D := .t (dR x.1 :: dR x.2.1 :: x.2.2)
def wlX (w : Rat × Rat) : Rat × Rat × List D := (w.1, w.2, [])
def blX (b : Ball) : Rat × Rat × List D := (b.p, b.v, [dI b.w])
def thingsX (row : List Ball) (w : Wls) : List (Rat × Rat × List D) := w.lo.toList.map wlX ++ row.map blX ++ w.hi.toList.map wlX
theorem things_X (row : List Ball) (w : Wls) : things row w = (thingsX row w).map fun x => (x.1, x.2.1) := by
  have h : ∀ o : Wl, o.toList.map ((fun x : Rat × Rat × List D => (x.1, x.2.1)) ∘ wlX) = o.toList := by intro o; cases o <;> rfl
  unfold things thingsX
  rw [List.map_append, List.map_append, List.map_map, List.map_map, List.map_map, h, h]
  rfl
end DL
namespace DL
open PySem L2 RZ
theorem cut_tail' {α : Type} (xs : List α) : cut xs (some 1) none = xs.tail := by
  cases xs with
  | nil => rfl
  | cons x xs => exact cut_tail x xs
theorem zipD_map {α : Type} (f : α → D) (l m : List α) : zipD (l.map f) (m.map f) = (l.zip m).map fun p => .t [f p.1, f p.2] := by
  unfold zipD
  rw [List.zip_map, List.map_map]; rfl
theorem zip_tail_get {α : Type} {l : List α} {i : Nat} {a b : α} (h : (l.zip l.tail)[i]? = some (a, b)) : l[i]? = some a ∧ l[i + 1]? = some b := by
  obtain ⟨h1, h2⟩ := List.getElem?_zip_eq_some.mp h
  exact ⟨h1, by simpa using h2⟩
theorem leastOf_short : ∀ (l : List (Rat × Rat)) (best : Option Rat), l.length ≤ 1 → leastOf l best = best
  | [], _, _ => rfl
  | [_], _, _ => rfl
  | _ :: _ :: _, _, h => by simp at h
theorem drop_two {α : Type} {l : List α} {i : Nat} {a b : α} (h1 : l[i]? = some a) (h2 : l[i + 1]? = some b) : l.drop i = a :: b :: l.drop (i + 2) ∧ l.drop (i + 1) = b :: l.drop (i + 2) := by
  obtain ⟨p1, e1⟩ := List.getElem?_eq_some_iff.mp h1
  obtain ⟨p2, e2⟩ := List.getElem?_eq_some_iff.mp h2
  have d2 : l.drop (i + 1) = b :: l.drop (i + 2) := by rw [List.drop_eq_getElem_cons p2, e2]
  exact ⟨by rw [List.drop_eq_getElem_cons p1, e1, d2], d2⟩
theorem leastOf_step {α : Type} {l : List α} (f : α → Rat × Rat) {i : Nat} {a b : α} (best : Option Rat) (h : (l.zip l.tail)[i]? = some (a, b)) :
    leastOf ((l.map f).drop i) best = leastOf ((l.map f).drop (i + 1)) (better best (meeting (f a).1 (f a).2 (f b).1 (f b).2)) := by
  obtain ⟨h1, h2⟩ := zip_tail_get h
  obtain ⟨e1, e2⟩ := drop_two (l := l.map f) (i := i) (a := f a) (b := f b) (by rw [List.getElem?_map, h1]; rfl) (by rw [List.getElem?_map, h2]; rfl)
  rw [e1, e2]; rfl
theorem zip_tail_mem {α : Type} {l : List α} (f : α → Rat × Rat) {a b : α} (h : (a, b) ∈ l.zip l.tail) : (f a, f b) ∈ (l.map f).zip (l.map f).tail := by
  rw [← List.map_tail, List.zip_map]
  exact List.mem_map.mpr ⟨(a, b), h, rfl⟩
theorem thingsX_sz {r : List Ball} {w : Wls} (hr : ∀ b ∈ r, BallSz b) (hw : WlsSz w) : ∀ x ∈ thingsX r w, Sz SB x.1 ∧ Sz SB x.2.1 := by
  intro x hx
  unfold thingsX at hx
  rw [List.mem_append, List.mem_append] at hx
  rcases hx with (hx | hx) | hx
  · obtain ⟨y, hy, rfl⟩ := List.mem_map.mp hx
    exact hw.1 y (by simpa using hy)
  · obtain ⟨y, hy, rfl⟩ := List.mem_map.mp hx
    exact hr y hy
  · obtain ⟨y, hy, rfl⟩ := List.mem_map.mp hx
    exact hw.2 y (by simpa using hy)
theorem thingsX_len (r : List Ball) (w : Wls) : (thingsX r w).length ≤ r.length + 2 := by
  unfold thingsX
  rw [List.length_append, List.length_append, List.length_map, List.length_map, List.length_map]
  have h : ∀ o : Wl, o.toList.length ≤ 1 := by intro o; cases o <;> simp
  have := h w.lo; have := h w.hi
  omega
theorem fm_wl (o : Wl) : [o].filterMap (fun o => o.map fun w => dX (wlX w)) = (o.toList.map wlX).map dX := by cases o <;> rfl
theorem thingsX_dX (r : List Ball) (w : Wls) : [w.lo].filterMap (fun o => o.map fun w => dX (wlX w)) ++ r.map dBall ++ [w.hi].filterMap (fun o => o.map fun w => dX (wlX w)) = (thingsX r w).map dX := by
  unfold thingsX
  rw [fm_wl, fm_wl, List.map_append, List.map_append, List.map_map (l := r)]
  rfl
theorem rising_snoc (l : List Rat) (q : Rat) : rising (l ++ [q]) = insertR q (rising l) := by
  unfold rising; rw [List.foldl_append]; rfl
theorem insertR_len (q : Rat) : ∀ l : List Rat, (insertR q l).length = l.length + 1
  | [] => rfl
  | x :: r => by unfold insertR; split <;> simp [insertR_len q r]
theorem insertR_mem (q : Rat) : ∀ (l : List Rat) (x : Rat), x ∈ insertR q l ↔ x = q ∨ x ∈ l
  | [], x => by simp [insertR]
  | y :: r, x => by
    unfold insertR; split
    · rw [List.mem_cons, insertR_mem q r x, List.mem_cons]; exact ⟨fun h => h.elim (fun h => .inr (.inl h)) (fun h => h.elim .inl (fun h => .inr (.inr h))), fun h => h.elim (fun h => .inr (.inl h)) (fun h => h.elim .inl (fun h => .inr (.inr h)))⟩
    · rw [List.mem_cons]
theorem rising_len (l : List Rat) : (rising l).length = l.length := by
  unfold rising
  suffices ∀ (l acc : List Rat), (l.foldl (fun acc q => insertR q acc) acc).length = acc.length + l.length by simpa using this l []
  intro l
  induction l with
  | nil => intro acc; rfl
  | cons x l ih => intro acc; rw [List.foldl_cons, ih, insertR_len, List.length_cons]; omega
theorem rising_mem (l : List Rat) (x : Rat) : x ∈ rising l ↔ x ∈ l := by
  unfold rising
  suffices ∀ (l acc : List Rat), x ∈ l.foldl (fun acc q => insertR q acc) acc ↔ x ∈ acc ∨ x ∈ l by simpa using this l []
  intro l
  induction l with
  | nil => intro acc; simp
  | cons y l ih => intro acc; rw [List.foldl_cons, ih, insertR_mem, List.mem_cons]; exact ⟨fun h => h.elim (fun h => h.elim (fun h => .inr (.inl h)) .inl) (fun h => .inr (.inr h)), fun h => h.elim (fun h => .inl (.inr h)) (fun h => h.elim (fun h => .inl (.inl h)) .inr)⟩
/-- the place at which one is put in -/
theorem insertR_go {q : Rat} {acc : List Rat} {k : Nat} {x : Rat} (h : insertR q acc = acc.take k ++ insertR q (acc.drop k)) (hx : acc[k]? = some x) (hl : x < q) : insertR q acc = acc.take (k + 1) ++ insertR q (acc.drop (k + 1)) := by
  obtain ⟨p, e⟩ := List.getElem?_eq_some_iff.mp hx
  rw [h, List.drop_eq_getElem_cons p, e, List.take_succ, hx]
  have : insertR q (x :: acc.drop (k + 1)) = x :: insertR q (acc.drop (k + 1)) := by show (if x < q then _ else _) = _; rw [if_pos hl]
  rw [this]
  simp
theorem insertR_stop {q : Rat} {acc : List Rat} {k : Nat} (h : insertR q acc = acc.take k ++ insertR q (acc.drop k)) (hx : ∀ x, acc[k]? = some x → ¬ x < q) : insertR q acc = acc.take k ++ [q] ++ acc.drop k := by
  rw [h, List.append_assoc]
  congr 1
  cases e : acc.drop k with
  | nil => rfl
  | cons x r =>
    have : acc[k]? = some x := by
      have := List.getElem?_drop (xs := acc) (i := k) (j := 0)
      rw [e] at this; simpa using this.symm
    show (if x < q then _ else _) = _
    rw [if_neg (hx x this)]; rfl
theorem sz_small {i : Int} (h0 : 0 ≤ i) (h : i ≤ 4000) : Sz 12 (i : Rat) := ⟨by show i.natAbs < 2 ^ 12; omega, by show 1 < 2 ^ 12; decide⟩
theorem divInt_one (i : Int) : Rat.divInt i 1 = (i : Rat) := by
  have := Rat.num_divInt_den (i : Rat)
  exact this
theorem ph_ratio1 {i : Int} {j : Int} (h : j = 1) (s : Sz BB (i : Rat)) : Ph_ratio [dI i, dI j] [] (fun d' S' => d' = dR (i : Rat) ∧ S' = []) XF := by
  subst h
  exact ⟨i, 1, rfl, rfl, by decide, by rw [divInt_one]; exact s, by rw [divInt_one], rfl⟩
theorem ph_wall_there {w : Wls} {p : Rat} : Ph_wall_there [dWls w, dR p] [] (fun d' S' => d' = dWh (wallThere w p) ∧ S' = []) XF := ⟨w, p, rfl, rfl, rfl, rfl⟩
theorem ph_wall_named {w : Wls} {x : Wh} : Ph_wall_named [dWls w, dWh x] [] (fun d' S' => d' = dWl (wallNamed w x) ∧ S' = []) XF := ⟨w, x, rfl, rfl, rfl, rfl⟩
theorem ph_comes_to {b : Ball} {w : Wls} {x : Wh} (h1 : BallSz b) (h2 : WlsSz w) (h3 : x = .low → w.lo ≠ none) (h4 : x = .high → w.hi ≠ none) : Ph_comes_to [dBall b, dWls w, dWh x] [] (fun d' S' => d' = dB (comesTo b.v w x) ∧ S' = []) XF := ⟨b, w, x, rfl, rfl, h1, h2, h3, h4, rfl, rfl⟩
theorem wallThere_low {w : Wls} {p : Rat} (h : wallThere w p = .low) : w.lo ≠ none := by
  intro z
  unfold wallThere at h
  rw [z] at h
  have : isAt none p = false := rfl
  rw [this] at h
  simp only [Bool.false_eq_true, if_false] at h
  split at h <;> cases h
theorem wallThere_high {w : Wls} {p : Rat} (h : wallThere w p = .high) : w.hi ≠ none := by
  intro z
  unfold wallThere at h
  rw [z] at h
  have : isAt none p = false := rfl
  rw [this] at h
  simp only [Bool.false_eq_true, if_false] at h
  split at h <;> cases h
theorem ph_row_at {r : List Ball} {t : Rat} (h1 : RowSz r) (h2 : Sz SB t) (h3 : RowSz (r.map (·.at t))) : Ph_row_at [dRow r, dR t] [] (fun d' S' => d' = dRow (r.map (·.at t)) ∧ S' = []) XF := ⟨r, t, rfl, rfl, h1, h2, h3, rfl, rfl⟩
theorem ph_walls_at {w : Wls} {t : Rat} (h1 : WlsSz w) (h2 : Sz SB t) (h3 : WlsSz (w.at t)) : Ph_walls_at [dWls w, dR t] [] (fun d' S' => d' = dWls (w.at t) ∧ S' = []) XF := ⟨w, t, rfl, rfl, h1, h2, h3, rfl, rfl⟩
theorem ph_least_moment {r : List Ball} {w : Wls} (h1 : RowSz r) (h2 : WlsSz w) (h3 : MeetSz (things r w)) : Ph_least_moment [dRow r, dWls w] [] (fun d' S' => d' = dOR (least r w) ∧ S' = []) XF := ⟨r, w, rfl, rfl, h1, h2, h3, rfl, rfl⟩
theorem ph_groups_at {r : List Ball} {w : Wls} (h1 : RowSz r) (h2 : WlsSz w) : Ph_groups_at [dRow r, dWls w] [] (fun d' S' => ∃ x, d' = .v x ∧ S' = [(x, .l ((groupsAt r w).map dGroup))]) XF := ⟨r, w, rfl, rfl, h1, h2, fun x => ⟨x, rfl, rfl⟩⟩
theorem ph_two_speeds {a b : Ball} (h1 : Sz SB a.v) (h2 : Sz SB b.v) (h3 : 1 ≤ a.w ∧ a.w ≤ 1000) (h4 : 1 ≤ b.w ∧ b.w ≤ 1000) (h5 : ∀ q ∈ twoSpeeds a b, Sz SB q) : Ph_two_speeds [dBall a, dBall b] [] (fun d' S' => ∃ x, d' = .v x ∧ S' = [(x, .l ((twoSpeeds a b).map dR))]) XF := ⟨a, b, rfl, rfl, h1, h2, h3, h4, h5, fun x => ⟨x, rfl, rfl⟩⟩
/-- one step of groupsFrom -/
def lastOf (b : Ball) (r : List Ball) : Bool := match r with | [] => true | c :: _ => !decide (c.p = b.p)
theorem groupsFrom_cons (w : Wls) (b : Ball) (r : List Ball) (k first : Nat) : groupsFrom w (b :: r) k first =
    if lastOf b r then (if decide (first < k) || comesTo b.v w (wallThere w b.p) then [⟨first, k, wallThere w b.p⟩] else []) ++ groupsFrom w r (k + 1) (k + 1) else groupsFrom w r (k + 1) first := by
  cases r <;> rfl
end DL
namespace DL
open PySem L2 RZ
def WOk (bs : List Ball) : Prop := ∀ b ∈ bs, 1 ≤ b.w ∧ b.w ≤ 1000
def unlike (bs : List Ball) : Bool := decide (1 < bs.length) && bs.any fun b => !decide (b.w = (bs.headD ⟨0, 0, 0⟩).w)
theorem dealt_two (a b : Ball) : dealt [a, b] none = some (twoSpeeds a b) := rfl
/-- speeds at a wall, before they are put in order -/
def spIn (bs : List Ball) : Wl → List Rat
  | none => bs.map (·.v)
  | some x => bs.map fun b => 2 * x.2 - b.v
theorem dealt_else {bs : List Ball} {w : Wl} (h : ¬ (bs.length = 2 ∧ w = none)) : dealt bs w = if unlike bs then none else some (rising (spIn bs w)) := by
  match bs, w, h with
  | [], none, _ => rfl
  | [], some _, _ => rfl
  | [_], none, _ => rfl
  | [_], some _, _ => rfl
  | [_, _], none, h => exact absurd ⟨rfl, rfl⟩ h
  | [_, _], some _, _ => rfl
  | _ :: _ :: _ :: _, none, _ => rfl
  | _ :: _ :: _ :: _, some _, _ => rfl
theorem dealt_len {bs : List Ball} {w : Wl} {qs : List Rat} (h : dealt bs w = some qs) : qs.length = bs.length := by
  by_cases q : bs.length = 2 ∧ w = none
  · obtain ⟨q1, rfl⟩ := q
    match bs, q1 with
    | [a, b], _ => rw [dealt_two] at h; cases h; rfl
  · rw [dealt_else q] at h
    split at h
    · cases h
    · cases h
      rw [rising_len]
      cases w <;> simp [spIn]
def slice (row : List Ball) (g : Group) : List Ball := (row.drop g.first).take (g.last + 1 - g.first)
/-- what is asked of a row's groups: in it, not refused, not too great -/
def RbSz (w : Wls) : List Ball → List Group → Prop
  | _, [] => True
  | row, g :: gs => g.first ≤ g.last ∧ g.last < row.length ∧ ∃ qs, dealt (slice row g) (wallNamed w g.wh) = some qs ∧ (∀ q ∈ qs, Sz SB q) ∧ RbSz w (putSpeeds row g.first qs) gs
theorem putSpeeds_len : ∀ (qs : List Rat) (row : List Ball) (first : Nat), (putSpeeds row first qs).length = row.length
  | [], row, first => rfl
  | q :: qs, row, first => by
    unfold putSpeeds
    split
    · rfl
    · rw [putSpeeds_len qs]; simp
theorem putSpeeds_all {P : Ball → Prop} : ∀ (qs : List Rat) (row : List Ball) (first : Nat), (∀ b ∈ row, P b) → (∀ b ∈ row, ∀ q ∈ qs, P ⟨b.p, q, b.w⟩) → (∀ b, P b → ∀ q ∈ qs, P ⟨b.p, q, b.w⟩) → ∀ b ∈ putSpeeds row first qs, P b
  | [], row, first, h, _, _ => h
  | q :: qs, row, first, h, h2, h3 => by
    unfold putSpeeds
    split
    · exact h
    · rename_i b hb
      refine putSpeeds_all qs _ _ (fun c hc => ?_) (fun c hc q' hq' => ?_) (fun c hc q' hq' => h3 c hc q' (List.mem_cons_of_mem _ hq'))
      · rcases List.mem_or_eq_of_mem_set hc with z | rfl
        · exact h c z
        · exact h2 b (List.mem_of_getElem? hb) q (List.mem_cons_self ..)
      · rcases List.mem_or_eq_of_mem_set hc with z | rfl
        · exact h2 c z q' (List.mem_cons_of_mem _ hq')
        · exact h3 _ (h2 b (List.mem_of_getElem? hb) q (List.mem_cons_self ..)) q' (List.mem_cons_of_mem _ hq')
theorem putSpeeds_sz {row : List Ball} {first : Nat} {qs : List Rat} (h : RowSz row) (hq : ∀ q ∈ qs, Sz SB q) : RowSz (putSpeeds row first qs) :=
  ⟨by rw [putSpeeds_len]; exact h.1, putSpeeds_all qs row first h.2 (fun b hb q hq' => ⟨(h.2 b hb).1, hq q hq'⟩) fun b hb q hq' => ⟨hb.1, hq q hq'⟩⟩
theorem putSpeeds_w {row : List Ball} {first : Nat} {qs : List Rat} (h : WOk row) : WOk (putSpeeds row first qs) :=
  putSpeeds_all qs row first h (fun b hb q _ => h b hb) fun b hb q _ => hb
theorem putSpeeds_snoc : ∀ (i : Nat) (qs : List Rat) (row : List Ball) (first : Nat) (b : Ball) (q : Rat), qs[i]? = some q → first + qs.length ≤ row.length → row[first + i]? = some b → putSpeeds row first (qs.take (i + 1)) = (putSpeeds row first (qs.take i)).set (first + i) ⟨b.p, q, b.w⟩
  | _, [], _, _, _, _, h, _, _ => by simp at h
  | 0, q' :: qs, row, first, b, q, h, hl, hb => by
    simp at h; subst h
    have e : putSpeeds row first (q' :: []) = row.set first ⟨b.p, q', b.w⟩ := by
      show (match row[first]? with | none => row | some b => putSpeeds (row.set first ⟨b.p, q', b.w⟩) (first + 1) []) = _
      rw [show row[first]? = some b from hb]; rfl
    exact e
  | i + 1, q' :: qs, row, first, b, q, h, hl, hb => by
    have hlt : first < row.length := by simp at hl; omega
    obtain ⟨c, hc⟩ : ∃ c, row[first]? = some c := ⟨_, List.getElem?_eq_getElem hlt⟩
    have e : ∀ qs', putSpeeds row first (q' :: qs') = putSpeeds (row.set first ⟨c.p, q', c.w⟩) (first + 1) qs' := fun qs' => by
      show (match row[first]? with | none => row | some b => putSpeeds (row.set first ⟨b.p, q', b.w⟩) (first + 1) qs') = _
      rw [hc]
    have e1 : first + (i + 1) = first + 1 + i := by omega
    rw [List.take_succ_cons, List.take_succ_cons, e, e, e1]
    refine putSpeeds_snoc i qs _ (first + 1) b q (by simpa using h) (by simp at hl ⊢; omega) ?_
    rw [List.getElem?_set_ne (by omega), ← e1]; exact hb
theorem slice_get {row : List Ball} {g : Group} {i : Nat} (h : i < (slice row g).length) : (slice row g)[i]? = row[g.first + i]? := by
  unfold slice at h ⊢
  rw [List.getElem?_take_of_lt (by rw [List.length_take] at h; omega), List.getElem?_drop]
theorem slice_len {row : List Ball} {g : Group} (h1 : g.first ≤ g.last) (h2 : g.last < row.length) : (slice row g).length = g.last + 1 - g.first := by
  unfold slice
  rw [List.length_take, List.length_drop]; omega
theorem slice_mem {row : List Ball} {g : Group} {b : Ball} (h : b ∈ slice row g) : b ∈ row := List.mem_of_mem_drop (List.mem_of_mem_take h)
theorem cut_nat {α : Type} (xs : List α) {a b : Nat} (ha : a ≤ xs.length) (hb : b ≤ xs.length) : cut xs (some (a : Int)) (some (b : Int)) = (xs.drop a).take (b - a) := by
  unfold cut
  rw [HT.sIx_nat, HT.sIx_nat, Nat.min_eq_left ha, Nat.min_eq_left hb]
def Ph_together_speeds : Spec := fun ds S R Xs => ∃ (x : V) (bs : List Ball) (w : Wl) (t : Rat) (qs : List Rat), ds = [.v x, dWl w, dR t] ∧ S = [(x, .l (bs.map dBall))] ∧ RowSz bs ∧ WOk bs ∧ WlSz w ∧ dealt bs w = some qs ∧ (∀ q ∈ qs, Sz SB q) ∧ ∀ y, R (.v y) [(y, .l (qs.map dR)), (x, .l (bs.map dBall))]
def Ph_rebounded : Spec := fun ds S R Xs => ∃ (r : List Ball) (w : Wls) (x : V) (gs : List Group) (t : Rat) (r' : List Ball), ds = [dRow r, dWls w, .v x, dR t] ∧ S = [(x, .l (gs.map dGroup))] ∧ RowSz r ∧ WOk r ∧ WlsSz w ∧ gs.length ≤ 1000 ∧ RbSz w r gs ∧ rebounded w r gs = some r' ∧ R (dRow r') [(x, .l (gs.map dGroup))]
/-- behind a statement the head of the store is let go -/
theorem s_let {K : PySem.W.Frag} {E : XK} {Xs : XP} {env : Env} {S : Sto} {a : TS} {O : Out} (h : EvS K E Xs a env S { O with nx := fun e s => ∃ F s1, s = F ++ s1 ∧ O.nx e s1 }) : EvS K E Xs a env S O := fun H0 B σ H G s Z n r k c =>
  h H0 B σ H G s Z (fun env' S' σ' H' s' ⟨F, s1, e, p⟩ => n env' s1 σ' H' (Stt.drop (S := F) (S' := s1) (by rw [← e]; exact s')) p) r k c
theorem two_num : dR (2 : Rat) = .t [.v (.int 2), .v (.int 1)] := rfl
theorem sz_two : Sz 12 (2 : Rat) := ⟨by decide, by decide⟩
theorem ixN_at {n j : Nat} (h : j < n) : ixN n (j : Int) = some j := by unfold ixN; rw [if_pos (by omega), if_pos (by omega)]; rfl
theorem rebounded_cons {w : Wls} {row r' : List Ball} {g : Group} {gs : List Group} {qs : List Rat} (hd : dealt (slice row g) (wallNamed w g.wh) = some qs) (h : rebounded w row (g :: gs) = some r') : rebounded w (putSpeeds row g.first qs) gs = some r' := by
  have e : rebound1 w row g = some (putSpeeds row g.first qs) := by
    unfold rebound1
    rw [show (row.drop g.first).take (g.last + 1 - g.first) = slice row g from rfl, hd]; rfl
  have h : (rebound1 w row g).bind (fun r => rebounded w r gs) = some r' := h
  rw [e] at h
  exact h
end DL
namespace DL
open PySem L2 RZ
structure Run where
  r : List Ball
  w : Wls
  m : Rat
  cs : List (Rat × Group)
abbrev dCom (c : Rat × Group) : D := .t [dR c.1, dI (c.2.first : Int), dI (c.2.last : Int), dWh c.2.wh]
def WayF (s : Run) (c : V) : List (Str × D) := [("row", dRow s.r), ("walls", dWls s.w), ("moment", dR s.m), ("comings", .v c)]
structure WayK (K : PySem.W.Frag) (C : Addr) : Prop where
  cls : Cls K C
  row : NoAttr K C "row"
  walls : NoAttr K C "walls"
  moment : NoAttr K C "moment"
  comings : NoAttr K C "comings"
def farOf (m : Rat) : Option Rat → Option Rat → Option Rat
  | none, _ => none
  | some f, none => some f
  | some f, some t => if t < m + f then none else some f
def Run.far (s : Run) (t : Option Rat) : Option Rat := farOf s.m (least s.r s.w) t
theorem far_least {s : Run} {t : Option Rat} {f : Rat} (h : s.far t = some f) : least s.r s.w = some f := by
  unfold Run.far at h
  cases e : least s.r s.w with
  | none => rw [e] at h; cases h
  | some g =>
    rw [e] at h
    cases t with
    | none => exact h
    | some q =>
      have h : (if q < s.m + g then none else some g) = some f := h
      split at h
      · cases h
      · exact h
def Run.goes (s : Run) (f : Rat) : Run := ⟨s.r.map (·.at f), s.w.at f, s.m + f, s.cs⟩
def RunSz (s : Run) : Prop := RowSz s.r ∧ WOk s.r ∧ WlsSz s.w ∧ MeetSz (things s.r s.w) ∧ Sz SB s.m
def GoSz (s : Run) (f : Rat) : Prop := RowSz (s.goes f).r ∧ WlsSz (s.goes f).w ∧ Sz SB (s.m + f)
def Comes (s : Run) (f : Rat) (s' : Run) : Prop := GoSz s f ∧ (groupsAt (s.goes f).r (s.goes f).w).length ≤ 1000 ∧ RbSz (s.goes f).w (s.goes f).r (groupsAt (s.goes f).r (s.goes f).w) ∧ s'.w = (s.goes f).w ∧ s'.m = (s.goes f).m ∧
  rebounded (s.goes f).w (s.goes f).r (groupsAt (s.goes f).r (s.goes f).w) = some s'.r ∧ s'.cs = s.cs ++ (groupsAt (s.goes f).r (s.goes f).w).map (fun g => (s.m + f, g)) ∧ s'.cs.length ≤ 400
def Walks (t : Option Rat) : Nat → Run → Run → Prop
  | 0, s, s' => RunSz s ∧ s.far t = none ∧ s' = s
  | n + 1, s, s' => RunSz s ∧ ∃ f s1, s.far t = some f ∧ Comes s f s1 ∧ Walks t n s1 s'
theorem leastOf_sz {P : Rat → Prop} : ∀ (l : List (Rat × Rat)) (best : Option Rat), (∀ t, best = some t → P t) → (∀ a b, (a, b) ∈ l.zip l.tail → ∀ t, meeting a.1 a.2 b.1 b.2 = some t → P t) → ∀ t, leastOf l best = some t → P t
  | [], best, h, _ => h
  | [_], best, h, _ => h
  | a :: b :: r, best, h, hm => by
    refine leastOf_sz (b :: r) _ (fun t ht => ?_) (fun c d hcd t ht => hm c d (by simp at hcd ⊢; exact .inr hcd) t ht)
    have h1 := hm a b (by simp)
    cases e : meeting a.1 a.2 b.1 b.2 with
    | none => rw [e] at ht; exact h t ht
    | some m =>
      rw [e] at ht h1
      cases best with
      | none => exact h1 t ht
      | some c =>
        have ht : (if m < c then some m else some c) = some t := ht
        split at ht
        · exact h1 t ht
        · exact h t ht
theorem least_sz {r : List Ball} {w : Wls} (h : MeetSz (things r w)) : ∀ t, least r w = some t → Sz SB t := leastOf_sz _ _ (fun _ z => nomatch z) h
theorem rb_sz {w : Wls} : ∀ {gs : List Group} {r r' : List Ball}, RowSz r → WOk r → RbSz w r gs → rebounded w r gs = some r' → RowSz r' ∧ WOk r'
  | [], r, r', h1, h2, _, e => by cases e; exact ⟨h1, h2⟩
  | g :: gs, r, r', h1, h2, ⟨_, _, qs, hd, hq, hr⟩, e => rb_sz (putSpeeds_sz h1 hq) (putSpeeds_w h2) hr (rebounded_cons hd e)
theorem goes_w {s : Run} {f : Rat} (h : WOk s.r) : WOk (s.goes f).r := fun b hb => by
  obtain ⟨a, ha, rfl⟩ := List.mem_map.mp hb
  exact h a ha
theorem putD_row {s : Run} {c : V} {r : List Ball} : putD "row" (dRow r) (WayF s c) = WayF { s with r := r } c := rfl
theorem putD_walls {s : Run} {c : V} {w : Wls} : putD "walls" (dWls w) (WayF s c) = WayF { s with w := w } c := rfl
theorem putD_moment {s : Run} {c : V} {m : Rat} : putD "moment" (dR m) (WayF s c) = WayF { s with m := m } c := rfl
theorem putD_init {r : List Ball} {w : Wls} {c : V} : putD "comings" (.v c) (putD "moment" (dR 0) (putD "walls" (dWls w) (putD "row" (dRow r) []))) = WayF ⟨r, w, 0, []⟩ c := rfl
def Ph_Way___init__ (C : Addr) : Spec := fun ds S R Xs => ∃ (x : V) (r : List Ball) (w : Wls), ds = [.v x, dRow r, dWls w] ∧ S = [(x, .i C [])] ∧ ∀ c, R dN [(c, .l []), (x, .i C (WayF ⟨r, w, 0, []⟩ c))]
def Ph_Way_coming_by (C : Addr) : Spec := fun ds S R Xs => ∃ (x c : V) (s : Run) (t : Option Rat), ds = [.v x, dOR t] ∧ S = [(x, .i C (WayF s c))] ∧ RunSz s ∧ (∀ q, t = some q → Sz SB q) ∧ R (dOR (s.far t)) [(x, .i C (WayF s c))]
def Ph_Way_go_on (C : Addr) : Spec := fun ds S R Xs => ∃ (x c : V) (s : Run) (f : Rat), ds = [.v x, dR f] ∧ S = [(x, .i C (WayF s c))] ∧ RowSz s.r ∧ WlsSz s.w ∧ Sz SB s.m ∧ Sz SB f ∧ GoSz s f ∧ R dN [(x, .i C (WayF (s.goes f) c))]
def Ph_Way_come (C : Addr) : Spec := fun ds S R Xs => ∃ (x c : V) (s s' : Run) (f : Rat), ds = [.v x, dR f] ∧ S = [(x, .i C (WayF s c)), (c, .l (s.cs.map dCom))] ∧ RunSz s ∧ Sz SB f ∧ Comes s f s' ∧ R dN [(x, .i C (WayF s' c)), (c, .l (s'.cs.map dCom))]
def Ph_Way_walk (C : Addr) : Spec := fun ds S R Xs => ∃ (x c : V) (s s' : Run) (t : Option Rat) (n : Nat), ds = [.v x, dOR t] ∧ S = [(x, .i C (WayF s c)), (c, .l (s.cs.map dCom))] ∧ (∀ q, t = some q → Sz SB q) ∧ Walks t n s s' ∧ R dN [(x, .i C (WayF s' c)), (c, .l (s'.cs.map dCom))]
def Ph_ended : Spec := fun ds S R Xs => ∃ (r : List Ball) (w : Wls) (s' : Run) (n : Nat), ds = [dRow r, dWls w] ∧ S = [] ∧ (w.lo = none ∨ w.hi = none) ∧ Walks none n ⟨r, w, 0, []⟩ s' ∧ ∀ c, R (.t [.v c, dRow s'.r, dWls s'.w]) [(c, .l (s'.cs.map dCom))]
section
variable {K : PySem.W.Frag} {E E' : XK} {Xs : XP} {env : Env} {S : Sto} {ta : TE} {tl : TA} {P : D → Sto → Prop}
/-- o.m(..), C(..), of defs that raise nothing -/
theorem ev_meth0 {Ph : Spec} {C : Addr} {m : Str} {v : V} {k : Nat} {fs : List (Str × D)} (h : ED K ta env S (.v v)) (hk : S[k]? = some (v, .i C fs)) (hm : fs.lookup m = none)
    (ha : EvA K E Xs tl env S fun ds S0 => ∃ S1 F, S0.Perm (S1 ++ F) ∧ Ph (.v v :: ds) S1 (fun d' S' => P d' (S' ++ F)) XF) : EvE K E Xs (tMeth C m (spD K Ph) [] E' ta tl) env S P := fun H0 B σ H G s Q q =>
  h H0 B σ H s _ fun w H1 g1 dw => by
    have s1 := s.grow g1
    obtain ⟨p, dx, gs, rfl, hp, hn, _, _⟩ := s1.ins hk
    rw [dw.vv]
    refine ⟨p, dx, gs, rfl, hp, fld_none hn hm, ha H0 B σ H1 G s1 _ fun ds S0 vs H2 k2 s2 dv ⟨S1, F, pm, hPh⟩ => ?_⟩
    have s3 := s2.perm pm
    obtain ⟨fps, h1, h2, h3⟩ := id s3.sto
    obtain ⟨f1, fF, rfl, o1, oF⟩ := h1.split
    refine ⟨.v (.ref p) :: ds, S1, f1, _, _, by rw [List.append_nil]; exact .cons .v dv, o1, ?_, hPh, fun d' S' v' H' fps' tk sb so nd fr dd rr => ?_, good0⟩
    · rw [List.flatten_append] at h2
      exact (List.nodup_append.mp h2).1
    · exact q d' (S' ++ F) v' H' ((TK.of g1).trans (k2.trans tk)) (Stt.call s3 o1 oF h2 h3 tk sb so nd fr) dd rr
theorem ev_make0 {Ph : Spec} {C : Addr} (ha : EvA K E Xs tl env S fun ds S0 => ∀ x, ∃ S1 F, ((x, Th.i C []) :: S0).Perm (S1 ++ F) ∧ Ph (.v x :: ds) S1 (fun d' S' => d' = .v .non ∧ P (.v x) (S' ++ F)) XF) : EvE K E Xs (tMake C (spD K Ph) [] E' tl) env S P := fun H0 B σ H G s Q q =>
  ha H0 B σ H G s _ fun ds S0 vs H1 k1 s1 dv hh => fun x dx hx hdx ne => by
    have sm : Same H1 (upd (upd H1 dx (.own x)) x (.ins C dx [])) := fun b o e => by rw [upd_ne (ne_of_none e hx), upd_ne (ne_of_none e hdx)]; exact e
    have s2 : Stt K H0 B env ((.ref x, Th.i C []) :: S0) σ (upd (upd H1 dx (.own x)) x (.ins C dx [])) := s1.fresh (fp := [x, dx]) sm (by simp [hx, hdx]) (by simp; exact fun z => ne z.symm)
      ⟨x, dx, [], rfl, rfl, upd_same, by rw [upd_ne ne]; exact upd_same, rfl, .nil⟩
    obtain ⟨S1, F, pm, hPh⟩ := hh (.ref x)
    have s3 := s2.perm pm
    obtain ⟨fps, h1, h2, h3⟩ := id s3.sto
    obtain ⟨f1, fF, rfl, o1, oF⟩ := h1.split
    refine ⟨.v (.ref x) :: ds, S1, f1, _, _, by rw [List.append_nil]; exact .cons .v (dv.mono (TK.of sm)), o1, ?_, hPh, fun d' S' v' H' fps' tk sb so nd fr dd rr => ?_, good0⟩
    · rw [List.flatten_append] at h2
      exact (List.nodup_append.mp h2).1
    · obtain ⟨rfl, pp⟩ := rr
      exact ⟨dd.vv, q _ (S' ++ F) _ H' (k1.trans ((TK.of sm).trans tk)) (Stt.call s3 o1 oF h2 h3 tk sb so nd fr) .v pp⟩
end
theorem walks_sz {t : Option Rat} {n : Nat} {s s' : Run} (h : Walks t n s s') : RunSz s := by
  cases n with
  | zero => exact h.1
  | succ n => exact h.1
end DL
namespace DL
open PySem L2 RZ
def dW : Option Int → D
  | none => dN
  | some i => dI i
abbrev dWts (a : Option Int) (b : Int) (c : Option Int) : D := .t [dW a, dI b, dW c]
def wOk (i : Int) : Prop := 1 ≤ i ∧ i ≤ 1000
def WtsOk (a : Option Int) (b : Int) (c : Option Int) : Prop := wOk b ∧ (∀ i, a = some i → wOk i) ∧ (∀ i, c = some i → wOk i) ∧ (a ≠ none ∨ c ≠ none)
def isWt : D → Bool
  | .v (.int i) => decide (1 ≤ i) && decide (i ≤ 1000)
  | _ => false
def factorI : Option Int → Int → Option Int → Int × Int
  | none, b, some c => (4 * c, b + c)
  | some a, b, none => (4 * a, a + b)
  | some a, b, some c => (4 * a * c, (a + b) * (b + c))
  | none, _, none => (0, 1)
def factor (a : Option Int) (b : Int) (c : Option Int) : Rat := Rat.divInt (factorI a b c).1 (factorI a b c).2
def numS (c : Rat) : Nat → Rat
  | 0 => 1
  | 1 => 1
  | k + 2 => numS c (k + 1) * (if k % 2 = 0 then c else 1) - numS c k
def NumOk (c : Rat) (N : Nat) : Prop := 3 ≤ N ∧ N ≤ 100 ∧ (∀ k, k + 1 < N → 0 < numS c k) ∧ numS c (N - 1) ≤ 0 ∧ ∀ k, k < N → Sz SB (numS c k)
def numbers (c : Rat) (N : Nat) : List Rat := (List.range N).map (numS c)
def startOf : Option Int → Int → Option Int → Rat → List Ball × Wls
  | none, b, c, e => ([⟨e, 0 - e, b⟩, ⟨3, -1, c.getD 0⟩], ⟨some (0, 0), none⟩)
  | some a, b, none, e => ([⟨-3, 1, a⟩, ⟨0 - e, e, b⟩], ⟨none, some (0, 0)⟩)
  | some a, b, some c, e => ([⟨0 - e, e, a⟩, ⟨0, 0, b⟩, ⟨3, -1, c⟩], ⟨none, none⟩)
def runOf (a : Option Int) (b : Int) (c : Option Int) (e : Rat) : Run := ⟨(startOf a b c e).1, (startOf a b c e).2, 0, []⟩
def bott (j : Nat) : Int := 2 ^ (2 ^ j)
def epsOf (j : Nat) : Rat := Rat.divInt 1 (bott j)
def MostRun (a : Option Int) (b : Int) (c : Option Int) (N J : Nat) : Prop := J ≤ 9 ∧ ∀ j, j ≤ J → ∃ n s', Walks none n (runOf a b c (epsOf j)) s' ∧ (s'.cs.length = N ↔ j = J)
def Ph_is_weight : Spec := fun ds S R Xs => ∃ (d : D), ds = [d] ∧ S = [] ∧ dty d ≠ "" ∧ R (dB (isWt d)) []
def Ph_look_at_weights : Spec := fun ds S R Xs => ∃ (a : Option Int) (b : Int) (c : Option Int), ds = [dWts a b c] ∧ S = [] ∧ WtsOk a b c ∧ R dN []
def Ph_factor_of : Spec := fun ds S R Xs => ∃ (a : Option Int) (b : Int) (c : Option Int), ds = [dWts a b c] ∧ S = [] ∧ WtsOk a b c ∧ R (dR (factor a b c)) []
def Ph_numbers_of : Spec := fun ds S R Xs => ∃ (a : Option Int) (b : Int) (c : Option Int) (N : Nat), ds = [dWts a b c] ∧ S = [] ∧ WtsOk a b c ∧ NumOk (factor a b c) N ∧ ∀ x, R (.v x) [(x, .l ((numbers (factor a b c) N).map dR))]
def Ph_beginning : Spec := fun ds S R Xs => ∃ (a : Option Int) (b : Int) (c : Option Int) (e : Rat), ds = [dWts a b c, dR e] ∧ S = [] ∧ WtsOk a b c ∧ Sz SB e ∧ R (.t [dRow (startOf a b c e).1, dWls (startOf a b c e).2]) []
def Ph_groups_from : Spec := fun ds S R Xs => ∃ (r : List Ball) (w : Wls) (n : Nat) (s' : Run), ds = [dRow r, dWls w] ∧ S = [] ∧ (w.lo = none ∨ w.hi = none) ∧ Walks none n ⟨r, w, 0, []⟩ s' ∧ R (dI (s'.cs.length : Int)) []
def Ph_most_of : Spec := fun ds S R Xs => ∃ (a : Option Int) (b : Int) (c : Option Int) (N J : Nat), ds = [dWts a b c] ∧ S = [] ∧ WtsOk a b c ∧ NumOk (factor a b c) N ∧ MostRun a b c N J ∧
  ∀ x, R (.t [dI (N : Int), .v x, dRow (startOf a b c (epsOf J)).1, dWls (startOf a b c (epsOf J)).2]) [(x, .l ((numbers (factor a b c) N).map dR))]
theorem ph_is_weight {d : D} (h : dty d ≠ "") : Ph_is_weight [d] [] (fun d' S' => d' = dB (isWt d) ∧ S' = []) XF := ⟨d, rfl, rfl, h, rfl, rfl⟩
theorem isWt_ok {i : Int} (h : wOk i) : isWt (dI i) = true := by
  show (decide (1 ≤ i) && decide (i ≤ 1000)) = true
  rw [decide_eq_true h.1, decide_eq_true h.2]; rfl
theorem dty_dW (o : Option Int) : dty (dW o) ≠ "" := by
  cases o with
  | none => show ("NoneType" : String) ≠ ""; decide
  | some i => show ("int" : String) ≠ ""; decide
theorem start_still (a : Option Int) (b : Int) (c : Option Int) (e : Rat) : (startOf a b c e).2.lo = none ∨ (startOf a b c e).2.hi = none := by
  cases a with
  | none => exact .inr rfl
  | some a => cases c with
    | none => exact .inl rfl
    | some c => exact .inl rfl
theorem bott_succ (j : Nat) : bott (j + 1) = bott j * bott j := by
  unfold bott
  rw [Nat.pow_succ, Nat.mul_two, Int.pow_add]
theorem bott_pos (j : Nat) : 0 < bott j := Int.pow_pos (by decide)
theorem bott_sz {j : Nat} (h : j ≤ 9) : (bott j).natAbs < 2 ^ 513 := by
  unfold bott
  rw [Int.natAbs_pow]
  exact Nat.pow_lt_pow_right (by decide) (Nat.lt_of_le_of_lt (Nat.pow_le_pow_right (by decide) h) (by decide))
theorem eps_sz {j : Nat} (h : j ≤ 9) : Sz 513 (epsOf j) := sz_divInt (Nat.one_lt_two_pow (by decide)) (bott_sz h) (by decide)
theorem isWt_dW {o : Option Int} (h : ∀ i, o = some i → wOk i) : isWt (dW o) = o.isSome := by
  cases o with
  | none => rfl
  | some i => exact isWt_ok (h i rfl)
theorem ru_I {K : PySem.W.Frag} {g : Int → V} {i : Int} : RU K (rU g) (.v (.int i)) (.v (g i)) := fun H v hv Q q => ⟨i, hv.vv, q _ H (Same.refl H) .v⟩
theorem ed_cmp2 {K : PySem.W.Frag} {env : Env} {S : Sto} {ta tb tc : TE} {r s : R2} {x y z : D} {p q : Bool} (ha : ED K ta env S x) (hb : ED K tb env S y) (hr : RD K r x y (.v (.bl p))) (hc : p = true → ED K tc env S z) (hs : p = true → RD K s y z (.v (.bl q))) : ED K (tChain r s ta tb tc) env S (.v (.bl (p && q))) := fun H0 B σ H st Q k =>
  ha H0 B σ H st _ fun v H1 g1 dv => hb H0 B σ H1 (st.grow g1) _ fun w H2 g2 dw => hr H2 v w (dv.mono (TK.of g2)) dw _ fun u H3 g3 du => ⟨p, du.vv, by
    cases p with
    | true => exact hc rfl H0 B σ H3 (((st.grow g1).grow g2).grow g3) _ fun w' H4 g4 dw' => hs rfl H4 w w' (dw.mono (TK.of (g3.trans g4))) dw' Q fun u' H5 g5 du' => k u' H5 (g1.trans (g2.trans (g3.trans (g4.trans g5)))) du'
    | false => exact k _ H3 (g1.trans (g2.trans g3)) .v⟩
theorem numbers_len (c : Rat) (N : Nat) : (numbers c N).length = N := by simp [numbers]
theorem numbers_get {c : Rat} {N k : Nat} (h : k < N) : (numbers c N)[k]? = some (numS c k) := by simp [numbers, h]
theorem numbers_snoc (c : Rat) (N : Nat) : numbers c (N + 1) = numbers c N ++ [numS c N] := by simp [numbers, List.range_succ]
theorem atI_neg {α : Type} {xs : List α} {j : Nat} (h1 : 1 ≤ j) (h : j ≤ xs.length) : atI xs (-(j : Int)) = xs[xs.length - j]? := by
  have e : ixN xs.length (-(j : Int)) = some (xs.length - j) := by
    unfold ixN; rw [if_neg (by omega), if_pos (by omega)]; congr 1; omega
  unfold atI; rw [e]; rfl
theorem factor_sz {a c : Option Int} {b : Int} (h : WtsOk a b c) : Sz 24 (factor a b c) := by
  obtain ⟨⟨hb1, hb2⟩, ha, hc, hac⟩ := h
  unfold factor
  cases a with
  | none => cases c with
    | none => simp at hac
    | some c =>
      obtain ⟨h1, h2⟩ := hc c rfl
      exact (sz_divInt (n := 12) (by show (4 * c).natAbs < _; omega) (by show (b + c).natAbs < _; omega) (by decide)).mono (by decide)
  | some a =>
    obtain ⟨h1, h2⟩ := ha a rfl
    cases c with
    | none => exact (sz_divInt (n := 12) (by show (4 * a).natAbs < _; omega) (by show (a + b).natAbs < _; omega) (by decide)).mono (by decide)
    | some c =>
      obtain ⟨h3, h4⟩ := hc c rfl
      refine sz_divInt (n := 24) ?_ ?_ (by decide)
      · have : (4 * a * c).natAbs < 2 ^ (12 + 12) := by rw [Int.natAbs_mul]; exact natlt (by omega) (by omega)
        exact this
      · have : ((a + b) * (b + c)).natAbs < 2 ^ (12 + 12) := by rw [Int.natAbs_mul]; exact natlt (by omega) (by omega)
        exact this
def inWt : D → Bool
  | .v (.int i) => decide (1 ≤ i) && decide (i ≤ 1000)
  | _ => false
theorem isWt_eq (d : D) : isWt d = (isInt d && inWt d) := by
  cases d with
  | v x => cases x <;> rfl
  | t _ => rfl
  | s _ => rfl
theorem num_pos {q : Rat} : 0 < q.num ↔ 0 < q := by
  rw [Rat.lt_iff]
  show _ ↔ (0 : Int) * _ < q.num * (1 : Int)
  rw [Int.zero_mul, Int.mul_one]
theorem numS_step (c : Rat) (k : Nat) : numS c (k + 2) = numS c (k + 1) * (if k % 2 = 0 then c else 1) - numS c k := rfl
theorem rat_zero_sub (q : Rat) : 0 - q = -q := by grind
section
variable {K : PySem.W.Frag} {E : XK} {Xs : XP} {env : Env} {S : Sto} {te : TE} {P : D → Sto → Prop}
theorem ev_lenE (h : EvE K E Xs te env S fun d S1 => ∃ ds, Lst S1 d ds ∧ P (.v (.int (ds.length : Int))) S1) : EvE K E Xs (tCB (fun xs H Q => ∃ p ys, xs = [.ref p] ∧ (SqL K H p ys ∨ SqT K H p ys) ∧ Q (.int ys.length) H) (tCons te tNil)) env S P := fun H0 B σ H G s Q q =>
  h H0 B σ H G s _ fun d S1 v H1 k1 s1 dv ⟨ds, l, p⟩ => by
    obtain ⟨a, vs, rfl, hs, hl⟩ := l.sq s1 dv
    exact ⟨a, vs, rfl, .inl hs, q _ S1 _ H1 k1 s1 (by rw [hl.length]; exact .v) p⟩
theorem ev_let (h : EvE K E Xs te env S fun d S1 => ∃ F s1, S1 = F ++ s1 ∧ P d s1) : EvE K E Xs te env S P := fun H0 B σ H G s Q q =>
  h H0 B σ H G s _ fun d S1 v H1 k1 s1 dv ⟨F, s2, e, p⟩ => q d s2 v H1 k1 (Stt.drop (S := F) (S' := s2) (by rw [← e]; exact s1)) dv p
end
theorem bott_mul {j : Nat} (h : j ≤ 9) : CMulW (bott j) (bott j) := wide_mul (bott_sz h) (bott_sz h) (by decide) (by decide) (by decide)
theorem ph_beginning {a c : Option Int} {b : Int} {e : Rat} (h : WtsOk a b c) (he : Sz SB e) : Ph_beginning [dWts a b c, dR e] [] (fun d' S' => d' = .t [dRow (startOf a b c e).1, dWls (startOf a b c e).2] ∧ S' = []) XF := ⟨a, b, c, e, rfl, rfl, h, he, rfl, rfl⟩
theorem ph_eps {j : Nat} (h : j ≤ 9) : Ph_ratio [dI 1, dI (bott j)] [] (fun d' S' => d' = dR (epsOf j) ∧ S' = []) XF := ⟨1, bott j, rfl, rfl, Int.ne_of_gt (bott_pos j), (eps_sz h).mono (by decide), rfl, rfl⟩
end DL
namespace DL
open PySem L2 RZ
mutual
inductive PdS (S : Sto) : D → PyData → Prop
  | base {d : D} : pdOk d = true → PdS S d (pd d)
  | tup {ds : List D} {ps : List PyData} : PdsS S ds ps → PdS S (.t ds) (.tuple ps)
  | lst {x : V} {k : Nat} {ds : List D} {ps : List PyData} : S[k]? = some (x, .l ds) → PdsS S ds ps → PdS S (.v x) (.list ps)
inductive PdsS (S : Sto) : List D → List PyData → Prop
  | nil : PdsS S [] []
  | cons {d : D} {p : PyData} {ds : List D} {ps : List PyData} : PdS S d p → PdsS S ds ps → PdsS S (d :: ds) (p :: ps)
end
section
variable {K : PySem.W.Frag} {H0 H : Hp} {B : List Addr} {env : Env} {S : Sto} {σ : St}
mutual
theorem PdS.dp (s : Stt K H0 B env S σ H) : ∀ {d : D} {p : PyData} {v : V}, PdS S d p → Dat K H d v → Dp K H v p
  | _, _, _, .base o, h => pd_dp h o
  | _, _, _, .tup q, h => by
    obtain ⟨a, vs, rfl, hs, l⟩ := h.tt
    exact .tup hs (PdsS.dp s q l)
  | _, _, _, .lst hk q, h => by
    obtain ⟨a, vs, rfl, ha, hl⟩ := s.lst hk
    rw [h.vv]
    exact .lst (SqL.of ha) (PdsS.dp s q hl)
theorem PdsS.dp (s : Stt K H0 B env S σ H) : ∀ {ds : List D} {ps : List PyData} {vs : List V}, PdsS S ds ps → DatL K H ds vs → DpAll K H vs ps
  | _, _, _, .nil, h => by cases h; exact .nil
  | _, _, _, .cons a b, h => by
    cases h with
    | cons x y => exact .cons (PdS.dp s a x) (PdsS.dp s b y)
end
end
mutual
theorem eqv_refl : ∀ p : PyData, p.canLay0 = true → PyData.eqv p p = true
  | .none, _ => rfl
  | .bool b, _ => by cases b <;> rfl
  | .int i, _ => by show (i == i) = true; exact beq_self_eq_true i
  | .str x, _ => by show (x == x) = true; exact beq_self_eq_true x
  | .list xs, h => by show PyData.eqvAll xs xs = true; exact eqvAll_refl xs h
  | .tuple xs, h => by show PyData.eqvAll xs xs = true; exact eqvAll_refl xs h
  | .dict _, h => by cases h
theorem eqvAll_refl : ∀ ps : List PyData, PyData.canLayAll0 ps = true → PyData.eqvAll ps ps = true
  | [], _ => rfl
  | p :: ps, h => by
    have h : (p.canLay0 && PyData.canLayAll0 ps) = true := h
    rw [Bool.and_eq_true] at h
    show (PyData.eqv p p && PyData.eqvAll ps ps) = true
    rw [eqv_refl p h.1, eqvAll_refl ps h.2]; rfl
end
/-- data of at most so many steps -/
def Shp (n : Nat) (p : PyData) : Prop := p.canLay0 = true ∧ p.depth ≤ n
def Shps (n : Nat) (ps : List PyData) : Prop := PyData.canLayAll0 ps = true ∧ PyData.depthAll ps ≤ n
theorem Shps.nil {n : Nat} : Shps n [] := ⟨rfl, Nat.zero_le _⟩
theorem Shps.cons {n : Nat} {p : PyData} {ps : List PyData} (h : Shp n p) (hs : Shps n ps) : Shps n (p :: ps) :=
  ⟨by show (p.canLay0 && PyData.canLayAll0 ps) = true; rw [h.1, hs.1]; rfl, Nat.max_le.mpr ⟨h.2, hs.2⟩⟩
theorem Shp.tup {n : Nat} {ps : List PyData} (h : Shps n ps) : Shp (n + 1) (.tuple ps) := ⟨h.1, Nat.succ_le_succ h.2⟩
theorem Shp.lst {n : Nat} {ps : List PyData} (h : Shps n ps) : Shp (n + 1) (.list ps) := ⟨h.1, Nat.succ_le_succ h.2⟩
theorem Shp.mono {m n : Nat} {p : PyData} (h : Shp m p) (l : m ≤ n) : Shp n p := ⟨h.1, Nat.le_trans h.2 l⟩
theorem Shp.ok {n : Nat} {p : PyData} (h : Shp n p) (l : n ≤ 64) : SeqAt.shaped p = true := by
  show (p.canLay0 && decide (p.depth ≤ 64)) = true
  rw [h.1, decide_eq_true (Nat.le_trans h.2 l)]; rfl
theorem Shp.int {n : Nat} {i : Int} : Shp n (.int i) := ⟨rfl, Nat.zero_le _⟩
theorem Shp.none {n : Nat} : Shp n .none := ⟨rfl, Nat.zero_le _⟩
theorem shp_dR (q : Rat) : Shp 1 (pd (dR q)) := by rw [pd_dR]; exact .tup (.cons .int (.cons .int .nil))
theorem shp_map {α : Type} {n : Nat} {f : α → D} (h : ∀ a, Shp n (pd (f a))) : ∀ l : List α, Shps n (pds (l.map f))
  | [] => .nil
  | a :: l => .cons (h a) (shp_map h l)
theorem ok_map {α : Type} {f : α → D} (h : ∀ a, pdOk (f a) = true) : ∀ l : List α, pdsOk (l.map f) = true
  | [] => rfl
  | a :: l => by show (pdOk (f a) && pdsOk (l.map f)) = true; rw [h a, ok_map h l]; rfl
theorem pdsS_map {α : Type} {S : Sto} {f : α → D} (h : ∀ a, pdOk (f a) = true) : ∀ l : List α, PdsS S (l.map f) (pds (l.map f))
  | [] => .nil
  | a :: l => .cons (.base (h a)) (pdsS_map h l)
theorem ok_dBall (b : Ball) : pdOk (dBall b) = true := rfl
theorem shp_dBall (b : Ball) : Shp 2 (pd (dBall b)) := .tup (.cons (shp_dR _) (.cons (shp_dR _) (.cons .int .nil)))
theorem ok_dRow (r : List Ball) : pdOk (dRow r) = true := ok_map ok_dBall r
theorem shp_dRow (r : List Ball) : Shp 3 (pd (dRow r)) := .tup (shp_map shp_dBall r)
theorem ok_dWl (w : Wl) : pdOk (dWl w) = true := by cases w <;> rfl
theorem shp_dWl (w : Wl) : Shp 2 (pd (dWl w)) := by
  cases w with
  | none => exact .none
  | some w => exact .tup (.cons (shp_dR _) (.cons (shp_dR _) .nil))
theorem ok_dWls (w : Wls) : pdOk (dWls w) = true := by
  show (pdOk (dWl w.lo) && (pdOk (dWl w.hi) && true)) = true
  rw [ok_dWl, ok_dWl]; rfl
theorem shp_dWls (w : Wls) : Shp 3 (pd (dWls w)) := .tup (.cons (shp_dWl _) (.cons (shp_dWl _) .nil))
section
variable {K : PySem.W.Frag} {env : Env} {S : Sto} {ta tb : TE} {x y : D} {p : PyData}
/-- != of what is alike -/
theorem ed_neS (ha : ED K ta env S x) (hb : ED K tb env S y) (hx : PdS S x p) (hy : PdS S y p) (sh : Shp 60 p) : ED K (tOp (rNeD K) ta tb) env S (.v (.bl false)) := fun H0 B σ H s Q q =>
  ha H0 B σ H s _ fun v H1 g1 dv => hb H0 B σ H1 (s.grow g1) _ fun w H2 g2 dw =>
    ⟨_, _, hx.dp ((s.grow g1).grow g2) (dv.mono (TK.of g2)), hy.dp ((s.grow g1).grow g2) dw, sh.ok (by decide), sh.ok (by decide), by rw [eqv_refl p sh.1]; exact q _ H2 (g1.trans g2) .v⟩
/-- isinstance(.., list) of a list of the store -/
theorem ed_isiL {v : V} {k : Nat} {ds : List D} (ha : ED K ta env S (.v v)) (hk : S[k]? = some (v, .l ds)) : ED K (tCB (rIsi K) (tCons ta (tCons (tC (V.ty "list")) tNil))) env S (.v (.bl true)) := fun H0 B σ H s Q q =>
  ha H0 B σ H s _ fun w H1 g1 dw => by
    obtain ⟨a, vs, rfl, h0, _⟩ := (s.grow g1).lst hk
    rw [dw.vv]
    exact ⟨_, _, _, _, true, rfl, .ty "list", .base (.lst h0), kit_ty (by show kitB "list" "list" = some true; decide +kernel), q _ H1 g1 .v⟩
/-- xs[i] of a new list -/
theorem ed_ixN {ds : List D} {i : Int} {d : D} (ha : EL K ta env S ds) (hb : ED K tb env S (.v (.int i))) (h : atI ds i = some d) : ED K (tOp (rIxL K) ta tb) env S d := fun H0 B σ H s Q q =>
  ha H0 B σ H s _ fun a vs H1 g1 hn hp hl => hb H0 B σ H1 (s.grow g1) _ fun w H2 g2 dw => by
    obtain ⟨y, hy, dy⟩ := atI_dat (hl.mono (TK.of g2)) h
    rw [dw.vv]
    exact ⟨a, vs, i, y, rfl, rfl, SqL.of (g2 _ _ hp), hy, q y H2 (g1.trans g2) dy⟩
end
/-- xs[i], with a change -/
theorem ev_ixE {K : PySem.W.Frag} {E : XK} {Xs : XP} {env : Env} {S : Sto} {ta tb : TE} {P : D → Sto → Prop} (ha : EvE K E Xs ta env S fun x S1 => EvE K E Xs tb env S1 fun y S2 => ∃ (ds : List D) (i : Int) (d : D), y = .v (.int i) ∧ Lst S2 x ds ∧ atI ds i = some d ∧ P d S2) : EvE K E Xs (tOp (rIxL K) ta tb) env S P := fun H0 B σ H G s Q q =>
  ha H0 B σ H G s _ fun x S1 v H1 k1 s1 dv p1 => p1 H0 B σ H1 G s1 _ fun y S2 w H2 k2 s2 dw ⟨ds, i, d, e, l, h, p2⟩ => by
    subst e
    obtain ⟨a, vs, rfl, hs, hl⟩ := l.sq s2 (dv.mono k2)
    obtain ⟨u, hu, du⟩ := atI_dat hl h
    rw [dw.vv]
    exact ⟨a, vs, i, u, rfl, rfl, hs, hu, q d S2 u H2 (k1.trans k2) s2 du p2⟩
def lcell (ns : List Int) (k : Nat) : Int := (ns[k]?).getD 0
def Ph__law_cell : Spec := fun ds S R Xs => ∃ (ns : List Int) (k : Nat), ds = [.s (ns.map dI), dI (k : Int)] ∧ S = [] ∧ R (dI (lcell ns k)) []
abbrev dPool (p0 p1 p2 : Int) : List D := [dI p0, dI p1, dI p2]
def Ph__law_pool : Spec := fun ds S R Xs => ∃ (c : Int), ds = [dI c] ∧ S = [] ∧ ∀ x p0 p1, 0 ≤ p0 → 0 ≤ p1 → p1 < 10 ^ 18 → R (.v x) [(x, .l (dPool p0 p1 0))]
def Ph__law_next : Spec := fun ds S R Xs => ∃ (x : V) (p0 p1 p2 base : Int), ds = [.v x, dI base] ∧ S = [(x, .l (dPool p0 p1 p2))] ∧ 0 ≤ p0 ∧ (0 ≤ p1 ∧ p1 < 10 ^ 18) ∧ (0 ≤ p2 ∧ p2 ≤ 1000000) ∧ (0 < base ∧ base ≤ 1000000000) ∧
  ∀ d p0' p2', 0 ≤ d → d < base → 0 ≤ p0' → 0 ≤ p2' → p2' ≤ p2 + 1 → R (dI d) [(x, .l (dPool p0' p1 p2'))]
def Ph__law_common : Spec := fun ds S R Xs => ∃ i j : Int, ds = [dI i, dI j] ∧ S = [] ∧ 0 ≤ i ∧ 0 ≤ j ∧ R (dI (Int.gcd i j : Nat)) []
def Ph__law_low : Spec := fun ds S R Xs => ∃ i j : Int, ds = [dI i, dI j] ∧ S = [] ∧ j ≠ 0 ∧ Sz BB (Rat.divInt i j) ∧ R (dR (Rat.divInt i j)) []
def Ph__law_gap : Spec := Ph_minus
def Ph__law_by : Spec := Ph_times
def LawW (a : Option Int) (b : Int) (c : Option Int) : Prop := WtsOk a b c ∧ ((b ≤ 30 ∧ (∀ i, a = some i → i ≤ 30) ∧ ∀ i, c = some i → i ≤ 30) ∨ 40 ≤ b)
def Ph__law_three : Spec := fun ds S R Xs => ∃ (x : V) (p0 p1 p2 : Int), ds = [.v x] ∧ S = [(x, .l (dPool p0 p1 p2))] ∧ 0 ≤ p0 ∧ (0 ≤ p1 ∧ p1 < 10 ^ 18) ∧ (0 ≤ p2 ∧ p2 ≤ 1000) ∧
  ∀ a b c p0' p2', LawW a b c → 0 ≤ p0' → 0 ≤ p2' → p2' ≤ p2 + 5 → R (dWts a b c) [(x, .l (dPool p0' p1 p2'))]
def Ph__law_numbers : Spec := Ph_numbers_of
def known : List ((Option Int × Int × Option Int) × Nat) := [((some 7, 7, some 7), 3), ((none, 5, some 5), 4), ((some 1, 1, none), 4), ((none, 1, some 3), 6), ((some 3, 1, none), 6), ((some 1, 1, some 2), 4), ((some 1, 1000, some 1), 3), ((some 100, 1, some 100), 23), ((none, 1, some 100), 32)]
abbrev dKnown (p : (Option Int × Int × Option Int) × Nat) : D := .t [dWts p.1.1 p.1.2.1 p.1.2.2, dI (p.2 : Int)]
def Ph__law_known : Spec := fun ds S R Xs => ds = [] ∧ S = [] ∧ ∀ x, R (.v x) [(x, .l (known.map dKnown))]
def Ph_law : Spec := fun ds S R Xs => ∃ (ns : List Int), ds = [.s (ns.map dI)] ∧ S = [] ∧ ns.length ≤ 63 ∧ R (dB true) []
section
variable {K : PySem.W.Frag} {E E' : XK} {Xs : XP} {env : Env} {S : Sto} {te : TE} {tl : TA} {P : D → Sto → Prop}
theorem ev_callQ0 {Ph : Spec} (ha : EvA K E Xs tl env S fun ds S0 => ∃ S1 F, S0.Perm (S1 ++ F) ∧ Ph ds S1 (fun d' S' => P d' (S' ++ F)) XF) : EvE K E Xs (tCall (spD K Ph) [] E' tl) env S P := fun H0 B σ H G s Q q =>
  ha H0 B σ H G s _ fun ds S0 vs H1 k1 s1 dv ⟨S1, F, pm, hPh⟩ => by
    have s3 := s1.perm pm
    obtain ⟨fps, h1, h2, h3⟩ := id s3.sto
    obtain ⟨f1, fF, rfl, o1, oF⟩ := h1.split
    refine ⟨ds, S1, f1, _, _, by rw [List.append_nil]; exact dv, o1, ?_, hPh, fun d' S' v' H' fps' tk sb so nd fr dd rr => ?_, good0⟩
    · rw [List.flatten_append] at h2
      exact (List.nodup_append.mp h2).1
    · exact q d' (S' ++ F) v' H' (k1.trans tk) (Stt.call s3 o1 oF h2 h3 tk sb so nd fr) dd rr
/-- what is behind s1 in the store is let go -/
theorem ev_fore (h : EvE K E Xs te env S fun d S1 => ∃ s1 F, S1 = s1 ++ F ∧ P d s1) : EvE K E Xs te env S P := fun H0 B σ H G s Q q =>
  h H0 B σ H G s _ fun d S1 v H1 k1 s1 dv ⟨s2, F, e, p⟩ => q d s2 v H1 k1 (Stt.fore (S := s2) (S' := F) (by rw [← e]; exact s1)) dv p
end
theorem small_div {x y : Int} (h0 : 0 < y) (h : y < 1073741824) : CDivP x y := ⟨by omega, PyProof.noPylong_small (by omega)⟩
theorem ph_low {i j : Int} (h0 : j ≠ 0) (s : Sz BB (Rat.divInt i j)) : Ph__law_low [dI i, dI j] [] (fun d' S' => d' = dR (Rat.divInt i j) ∧ S' = []) XF := ⟨i, j, rfl, rfl, h0, s, rfl, rfl⟩
theorem ph_common {i j : Int} (h0 : 0 ≤ i) (h1 : 0 ≤ j) : Ph__law_common [dI i, dI j] [] (fun d' S' => d' = dI (Int.gcd i j : Nat) ∧ S' = []) XF := ⟨i, j, rfl, rfl, h0, h1, rfl, rfl⟩
theorem ph_cell {ns : List Int} {k : Nat} : Ph__law_cell [.s (ns.map dI), dI (k : Int)] [] (fun d' S' => d' = dI (lcell ns k) ∧ S' = []) XF := ⟨ns, k, rfl, rfl, rfl, rfl⟩
theorem el_catLN {K : PySem.W.Frag} {env : Env} {S : Sto} {ta tb : TE} {ds es : List D} {v : V} {k : Nat} (ha : ED K ta env S (.v v)) (hk : S[k]? = some (v, .l ds)) (hb : EL K tb env S es) (hl : ds.length + es.length ≤ 1000000) : EL K (tOp rCat ta tb) env S (ds ++ es) := fun H0 B σ H s Q q =>
  ha H0 B σ H s _ fun w H1 g1 dv => hb H0 B σ H1 (s.grow g1) _ fun b ws H2 g2 n2 h2 l2 => by
    obtain ⟨a, vs, rfl, h0, l1⟩ := ((s.grow g1).grow g2).lst hk
    rw [dv.vv]
    exact ⟨a, b, vs, ws, rfl, rfl, h0, h2, by rw [← l1.length, ← l2.length]; exact sz6 hl, fun p hp =>
      q p _ _ (g1.trans (g2.trans (same_upd hp))) (g1.free (g2.free hp)) upd_same ((l1.append l2).mono (TK.of (same_upd hp)))⟩
/-- behind a statement that goes on in any case -/
theorem s_to {K : PySem.W.Frag} {E : XK} {Xs : XP} {env : Env} {S : Sto} {a : TS} {O : Out} {Q : Env → Sto → Prop} (h : EvS K E Xs a env S ⟨Q, fun _ _ => False, fun _ _ => False, fun _ _ => False⟩) (m : ∀ e s, Q e s → O.nx e s) : EvS K E Xs a env S O :=
  s_mono h m (fun _ _ z => z.elim) (fun _ _ z => z.elim) fun _ _ z => z.elim
theorem evt_orF {K : PySem.W.Frag} {E : XK} {Xs : XP} {env : Env} {S : Sto} {t u : TT} {P : Bool → Sto → Prop} (h : EvT K E Xs t env S fun b S' => b = false ∧ EvT K E Xs u env S' P) : EvT K E Xs (tOr t u) env S P := evt_or (fun H0 B σ H G s Q q => h H0 B σ H G s Q fun b S' H' k s' ⟨e, p⟩ => q b S' H' k s' (by subst e; rw [if_neg Bool.false_ne_true]; exact p))
theorem known_at {d : Int} (h0 : 0 ≤ d) (h : d < 9) : ∃ p ∈ known, atI (known.map dKnown) d = some (dKnown p) := by
  obtain ⟨n, rfl⟩ : ∃ n : Nat, d = n := ⟨d.toNat, by omega⟩
  have hl : n < known.length := by show _ < 9; omega
  refine ⟨known[n], List.getElem_mem hl, ?_⟩
  rw [atI_at (by rw [List.length_map]; exact hl), List.getElem?_map, List.getElem?_eq_getElem hl]; rfl
theorem known_ok : ∀ p ∈ known, WtsOk p.1.1 p.1.2.1 p.1.2.2 := by
  intro p hp
  simp only [known, List.mem_cons, List.not_mem_nil, or_false] at hp
  rcases hp with rfl | rfl | rfl | rfl | rfl | rfl | rfl | rfl | rfl <;> refine ⟨⟨by decide, by decide⟩, fun i z => ?_, fun i z => ?_, ?_⟩ <;> first | (cases z; exact ⟨by decide, by decide⟩) | (cases z; done) | decide
end DL
namespace PG
open PySem L2 RZ DL
def top (i : Nat) : Stmt := PySem.Challenge.pw_clackrow_k46_numbers_of_the_most.main.body.getD i (.Pass ⟨0, 0, 0, 0⟩)
structure Adr where
  NOUGHT : Addr
  ONE : Addr
structure Txt (K : PySem.W.Frag) (mg : Str → Option Value) (A : Adr) : Prop where
  b_abs : mg "abs" = none
  b_all : mg "all" = none
  b_any : mg "any" = none
  b_bool : mg "bool" = none
  b_enumerate : mg "enumerate" = none
  b_int : mg "int" = none
  b_isinstance : mg "isinstance" = none
  b_len : mg "len" = none
  b_list : mg "list" = none
  b_max : mg "max" = none
  b_range : mg "range" = none
  b_tuple : mg "tuple" = none
  b_zip : mg "zip" = none
  g_GREATEST : ∃ u, mg "GREATEST" = some u ∧ RelV (.int 1000) u
  g_HIGH : ∃ u, mg "HIGH" = some u ∧ RelV (.int 1) u
  g_LOW : ∃ u, mg "LOW" = some u ∧ RelV (.int 0) u
  g_MOST_GROUPS : ∃ u, mg "MOST_GROUPS" = some u ∧ RelV (.int 400) u
  g_NOUGHT : mg "NOUGHT" = some (.ref (A.NOUGHT))
  d_NOUGHT : ∀ H, Dat K H (.t [(.v (.int 0)), (.v (.int 1))]) (.ref A.NOUGHT)
  g_ONE : mg "ONE" = some (.ref (A.ONE))
  d_ONE : ∀ H, Dat K H (.t [(.v (.int 1)), (.v (.int 1))]) (.ref A.ONE)
  g_PLACE : ∃ u, mg "PLACE" = some u ∧ RelV (.int 0) u
  g_SPEED : ∃ u, mg "SPEED" = some u ∧ RelV (.int 1) u
  g_WEIGHT : ∃ u, mg "WEIGHT" = some u ∧ RelV (.int 2) u
abbrev s_Together___init__ : Stmt := inClass (top 6) 0
abbrev N_Together___init__ : List Str := ["self", "moment"]
theorem sc_Together___init__ : FnScope N_Together___init__ ["self", "moment"] (defScope s_Together___init__) := ⟨rfl, rfl, rfl, by decide +kernel, rfl, by decide +kernel, by decide +kernel⟩
abbrev s_is_whole : Stmt := top 8
abbrev N_is_whole : List Str := ["thing"]
theorem sc_is_whole : FnScope N_is_whole ["thing"] (defScope s_is_whole) := ⟨rfl, rfl, rfl, by decide +kernel, rfl, by decide +kernel, by decide +kernel⟩
abbrev s_divisor_of : Stmt := top 9
abbrev N_divisor_of : List Str := ["one", "other"]
theorem sc_divisor_of : FnScope N_divisor_of ["one", "other"] (defScope s_divisor_of) := ⟨rfl, rfl, rfl, by decide +kernel, rfl, by decide +kernel, by decide +kernel⟩
abbrev s_ratio : Stmt := top 10
abbrev N_ratio : List Str := ["top", "bottom", "by"]
theorem sc_ratio : FnScope N_ratio ["top", "bottom"] (defScope s_ratio) := ⟨rfl, rfl, rfl, by decide +kernel, rfl, by decide +kernel, by decide +kernel⟩
abbrev s_plus : Stmt := top 11
abbrev N_plus : List Str := ["one", "other"]
theorem sc_plus : FnScope N_plus ["one", "other"] (defScope s_plus) := ⟨rfl, rfl, rfl, by decide +kernel, rfl, by decide +kernel, by decide +kernel⟩
abbrev s_minus : Stmt := top 12
abbrev N_minus : List Str := ["one", "other"]
theorem sc_minus : FnScope N_minus ["one", "other"] (defScope s_minus) := ⟨rfl, rfl, rfl, by decide +kernel, rfl, by decide +kernel, by decide +kernel⟩
abbrev s_times : Stmt := top 13
abbrev N_times : List Str := ["one", "other"]
theorem sc_times : FnScope N_times ["one", "other"] (defScope s_times) := ⟨rfl, rfl, rfl, by decide +kernel, rfl, by decide +kernel, by decide +kernel⟩
abbrev s_over : Stmt := top 14
abbrev N_over : List Str := ["one", "other"]
theorem sc_over : FnScope N_over ["one", "other"] (defScope s_over) := ⟨rfl, rfl, rfl, by decide +kernel, rfl, by decide +kernel, by decide +kernel⟩
abbrev s_less : Stmt := top 15
abbrev N_less : List Str := ["one", "other"]
theorem sc_less : FnScope N_less ["one", "other"] (defScope s_less) := ⟨rfl, rfl, rfl, by decide +kernel, rfl, by decide +kernel, by decide +kernel⟩
abbrev s_place_at : Stmt := top 23
abbrev N_place_at : List Str := ["thing", "t"]
theorem sc_place_at : FnScope N_place_at ["thing", "t"] (defScope s_place_at) := ⟨rfl, rfl, rfl, by decide +kernel, rfl, by decide +kernel, by decide +kernel⟩
abbrev s_gone_on : Stmt := top 24
abbrev N_gone_on : List Str := ["thing", "t"]
theorem sc_gone_on : FnScope N_gone_on ["thing", "t"] (defScope s_gone_on) := ⟨rfl, rfl, rfl, by decide +kernel, rfl, by decide +kernel, by decide +kernel⟩
abbrev s_walls_at : Stmt := top 25
abbrev N_walls_at : List Str := ["walls", "t", "found", "wall"]
theorem sc_walls_at : FnScope N_walls_at ["walls", "t"] (defScope s_walls_at) := ⟨rfl, rfl, rfl, by decide +kernel, rfl, by decide +kernel, by decide +kernel⟩
abbrev s_meeting_moment : Stmt := top 27
abbrev N_meeting_moment : List Str := ["left", "right"]
theorem sc_meeting_moment : FnScope N_meeting_moment ["left", "right"] (defScope s_meeting_moment) := ⟨rfl, rfl, rfl, by decide +kernel, rfl, by decide +kernel, by decide +kernel⟩
abbrev s_least_moment : Stmt := top 28
abbrev N_least_moment : List Str := ["row", "walls", "things", "wall", "best", "left", "right", "moment"]
theorem sc_least_moment : FnScope N_least_moment ["row", "walls"] (defScope s_least_moment) := ⟨rfl, rfl, rfl, by decide +kernel, rfl, by decide +kernel, by decide +kernel⟩
abbrev s_wall_there : Stmt := top 29
abbrev N_wall_there : List Str := ["walls", "place"]
theorem sc_wall_there : FnScope N_wall_there ["walls", "place"] (defScope s_wall_there) := ⟨rfl, rfl, rfl, by decide +kernel, rfl, by decide +kernel, by decide +kernel⟩
abbrev s_wall_named : Stmt := top 30
abbrev N_wall_named : List Str := ["walls", "where"]
theorem sc_wall_named : FnScope N_wall_named ["walls", "where"] (defScope s_wall_named) := ⟨rfl, rfl, rfl, by decide +kernel, rfl, by decide +kernel, by decide +kernel⟩
abbrev s_comes_to : Stmt := top 31
abbrev N_comes_to : List Str := ["ball", "walls", "where"]
theorem sc_comes_to : FnScope N_comes_to ["ball", "walls", "where"] (defScope s_comes_to) := ⟨rfl, rfl, rfl, by decide +kernel, rfl, by decide +kernel, by decide +kernel⟩
abbrev s_groups_at : Stmt := top 32
abbrev N_groups_at : List Str := ["row", "walls", "found", "first", "k", "ball", "where"]
theorem sc_groups_at : FnScope N_groups_at ["row", "walls"] (defScope s_groups_at) := ⟨rfl, rfl, rfl, by decide +kernel, rfl, by decide +kernel, by decide +kernel⟩
abbrev s_rising : Stmt := top 33
abbrev N_rising : List Str := ["ratios", "found", "one", "at"]
theorem sc_rising : FnScope N_rising ["ratios"] (defScope s_rising) := ⟨rfl, rfl, rfl, by decide +kernel, rfl, by decide +kernel, by decide +kernel⟩
abbrev s_two_speeds : Stmt := top 34
abbrev N_two_speeds : List Str := ["left", "right", "whole", "closing", "back", "on"]
theorem sc_two_speeds : FnScope N_two_speeds ["left", "right"] (defScope s_two_speeds) := ⟨rfl, rfl, rfl, by decide +kernel, rfl, by decide +kernel, by decide +kernel⟩
abbrev s_together_speeds : Stmt := top 35
abbrev N_together_speeds : List Str := ["balls", "wall", "moment", "ball", "speeds", "speed"]
theorem sc_together_speeds : FnScope N_together_speeds ["balls", "wall", "moment"] (defScope s_together_speeds) := ⟨rfl, rfl, rfl, by decide +kernel, rfl, by decide +kernel, by decide +kernel⟩
abbrev s_rebounded : Stmt := top 36
abbrev N_rebounded : List Str := ["row", "walls", "groups", "moment", "found", "first", "last", "where", "balls", "speeds", "k", "speed"]
theorem sc_rebounded : FnScope N_rebounded ["row", "walls", "groups", "moment"] (defScope s_rebounded) := ⟨rfl, rfl, rfl, by decide +kernel, rfl, by decide +kernel, by decide +kernel⟩
abbrev s_row_at : Stmt := top 39
abbrev N_row_at : List Str := ["row", "t", "ball"]
theorem sc_row_at : FnScope N_row_at ["row", "t"] (defScope s_row_at) := ⟨rfl, rfl, rfl, by decide +kernel, rfl, by decide +kernel, by decide +kernel⟩
abbrev s_Way___init__ : Stmt := inClass (top 40) 0
abbrev N_Way___init__ : List Str := ["self", "row", "walls"]
theorem sc_Way___init__ : FnScope N_Way___init__ ["self", "row", "walls"] (defScope s_Way___init__) := ⟨rfl, rfl, rfl, by decide +kernel, rfl, by decide +kernel, by decide +kernel⟩
abbrev s_Way_coming_by : Stmt := inClass (top 40) 1
abbrev N_Way_coming_by : List Str := ["self", "t", "far"]
theorem sc_Way_coming_by : FnScope N_Way_coming_by ["self", "t"] (defScope s_Way_coming_by) := ⟨rfl, rfl, rfl, by decide +kernel, rfl, by decide +kernel, by decide +kernel⟩
abbrev s_Way_go_on : Stmt := inClass (top 40) 2
abbrev N_Way_go_on : List Str := ["self", "far"]
theorem sc_Way_go_on : FnScope N_Way_go_on ["self", "far"] (defScope s_Way_go_on) := ⟨rfl, rfl, rfl, by decide +kernel, rfl, by decide +kernel, by decide +kernel⟩
abbrev s_Way_come : Stmt := inClass (top 40) 3
abbrev N_Way_come : List Str := ["self", "far", "groups", "group"]
theorem sc_Way_come : FnScope N_Way_come ["self", "far"] (defScope s_Way_come) := ⟨rfl, rfl, rfl, by decide +kernel, rfl, by decide +kernel, by decide +kernel⟩
abbrev s_Way_walk : Stmt := inClass (top 40) 4
abbrev N_Way_walk : List Str := ["self", "t", "far"]
theorem sc_Way_walk : FnScope N_Way_walk ["self", "t"] (defScope s_Way_walk) := ⟨rfl, rfl, rfl, by decide +kernel, rfl, by decide +kernel, by decide +kernel⟩
abbrev s_ended : Stmt := top 41
abbrev N_ended : List Str := ["row", "walls", "way"]
theorem sc_ended : FnScope N_ended ["row", "walls"] (defScope s_ended) := ⟨rfl, rfl, rfl, by decide +kernel, rfl, by decide +kernel, by decide +kernel⟩
abbrev s_is_weight : Stmt := top 45
abbrev N_is_weight : List Str := ["thing"]
theorem sc_is_weight : FnScope N_is_weight ["thing"] (defScope s_is_weight) := ⟨rfl, rfl, rfl, by decide +kernel, rfl, by decide +kernel, by decide +kernel⟩
abbrev s_look_at_weights : Stmt := top 46
abbrev N_look_at_weights : List Str := ["weights", "weight"]
theorem sc_look_at_weights : FnScope N_look_at_weights ["weights"] (defScope s_look_at_weights) := ⟨rfl, rfl, rfl, by decide +kernel, rfl, by decide +kernel, by decide +kernel⟩
abbrev s_factor_of : Stmt := top 47
abbrev N_factor_of : List Str := ["weights", "first", "middle", "last"]
theorem sc_factor_of : FnScope N_factor_of ["weights"] (defScope s_factor_of) := ⟨rfl, rfl, rfl, by decide +kernel, rfl, by decide +kernel, by decide +kernel⟩
abbrev s_numbers_of : Stmt := top 48
abbrev N_numbers_of : List Str := ["weights", "factor", "numbers", "step"]
theorem sc_numbers_of : FnScope N_numbers_of ["weights"] (defScope s_numbers_of) := ⟨rfl, rfl, rfl, by decide +kernel, rfl, by decide +kernel, by decide +kernel⟩
abbrev s_beginning : Stmt := top 49
abbrev N_beginning : List Str := ["weights", "small", "first", "middle", "last", "slow", "row"]
theorem sc_beginning : FnScope N_beginning ["weights", "small"] (defScope s_beginning) := ⟨rfl, rfl, rfl, by decide +kernel, rfl, by decide +kernel, by decide +kernel⟩
abbrev s_groups_from : Stmt := top 50
abbrev N_groups_from : List Str := ["row", "walls"]
theorem sc_groups_from : FnScope N_groups_from ["row", "walls"] (defScope s_groups_from) := ⟨rfl, rfl, rfl, by decide +kernel, rfl, by decide +kernel, by decide +kernel⟩
abbrev s_most_of : Stmt := top 51
abbrev N_most_of : List Str := ["weights", "numbers", "bottom", "row", "walls"]
theorem sc_most_of : FnScope N_most_of ["weights"] (defScope s_most_of) := ⟨rfl, rfl, rfl, by decide +kernel, rfl, by decide +kernel, by decide +kernel⟩
abbrev s__law_cell : Stmt := top 53
abbrev N__law_cell : List Str := ["script", "k"]
theorem sc__law_cell : FnScope N__law_cell ["script", "k"] (defScope s__law_cell) := ⟨rfl, rfl, rfl, by decide +kernel, rfl, by decide +kernel, by decide +kernel⟩
abbrev s__law_pool : Stmt := top 54
abbrev N__law_pool : List Str := ["cell"]
theorem sc__law_pool : FnScope N__law_pool ["cell"] (defScope s__law_pool) := ⟨rfl, rfl, rfl, by decide +kernel, rfl, by decide +kernel, by decide +kernel⟩
abbrev s__law_next : Stmt := top 55
abbrev N__law_next : List Str := ["pool", "base", "digit", "mixed", "stir"]
theorem sc__law_next : FnScope N__law_next ["pool", "base"] (defScope s__law_next) := ⟨rfl, rfl, rfl, by decide +kernel, rfl, by decide +kernel, by decide +kernel⟩
abbrev s__law_common : Stmt := top 56
abbrev N__law_common : List Str := ["one", "other"]
theorem sc__law_common : FnScope N__law_common ["one", "other"] (defScope s__law_common) := ⟨rfl, rfl, rfl, by decide +kernel, rfl, by decide +kernel, by decide +kernel⟩
abbrev s__law_low : Stmt := top 57
abbrev N__law_low : List Str := ["top", "bottom", "shared"]
theorem sc__law_low : FnScope N__law_low ["top", "bottom"] (defScope s__law_low) := ⟨rfl, rfl, rfl, by decide +kernel, rfl, by decide +kernel, by decide +kernel⟩
abbrev s__law_gap : Stmt := top 58
abbrev N__law_gap : List Str := ["one", "other"]
theorem sc__law_gap : FnScope N__law_gap ["one", "other"] (defScope s__law_gap) := ⟨rfl, rfl, rfl, by decide +kernel, rfl, by decide +kernel, by decide +kernel⟩
abbrev s__law_by : Stmt := top 59
abbrev N__law_by : List Str := ["one", "other"]
theorem sc__law_by : FnScope N__law_by ["one", "other"] (defScope s__law_by) := ⟨rfl, rfl, rfl, by decide +kernel, rfl, by decide +kernel, by decide +kernel⟩
abbrev s__law_three : Stmt := top 60
abbrev N__law_three : List Str := ["pool", "most", "some", "k", "way"]
theorem sc__law_three : FnScope N__law_three ["pool"] (defScope s__law_three) := ⟨rfl, rfl, rfl, by decide +kernel, rfl, by decide +kernel, by decide +kernel⟩
abbrev s__law_numbers : Stmt := top 61
abbrev N__law_numbers : List Str := ["weights", "first", "middle", "last", "factor", "numbers", "step"]
theorem sc__law_numbers : FnScope N__law_numbers ["weights"] (defScope s__law_numbers) := ⟨rfl, rfl, rfl, by decide +kernel, rfl, by decide +kernel, by decide +kernel⟩
abbrev s__law_known : Stmt := top 62
abbrev N__law_known : List Str := ["some"]
theorem sc__law_known : FnScope N__law_known [] (defScope s__law_known) := ⟨rfl, rfl, rfl, by decide +kernel, rfl, by decide +kernel, by decide +kernel⟩
abbrev s_law : Stmt := top 63
abbrev N_law : List Str := ["script", "pool", "weights", "most", "cell", "found", "numbers", "again"]
theorem sc_law : FnScope N_law ["script"] (defScope s_law) := ⟨rfl, rfl, rfl, by decide +kernel, rfl, by decide +kernel, by decide +kernel⟩
local macro_rules | `(tactic| walk_at "sto") => `(tactic| first | exact (rfl : (_ : Sto)[0]? = _) | exact (rfl : (_ : Sto)[1]? = _) | exact (rfl : (_ : Sto)[2]? = _) | exact (rfl : (_ : Sto)[3]? = _))
local macro_rules | `(tactic| walk_at "lst") => `(tactic| first | exact Or.inl rfl | exact lst_of (rfl : (_ : Sto)[0]? = _) | exact lst_of (rfl : (_ : Sto)[1]? = _) | exact lst_of (rfl : (_ : Sto)[2]? = _) | exact lst_of (rfl : (_ : Sto)[3]? = _))
local macro_rules | `(tactic| walk_at "szc") => `(tactic| first | assumption | exact Sz.neg (by assumption))
local macro_rules | `(tactic| walk_at "sz") => `(tactic| (refine Sz.mono (m := ?_) ?_ ?_; rotate_left; (first
  | assumption
  | exact Sz.div (Sz.sub (by assumption) (by assumption)) (Sz.sub (by assumption) (by assumption)) (by decide)
  | exact Sz.sub (by assumption) (by assumption) | exact Sz.add (by assumption) (by assumption) | exact Sz.mul (by assumption) (by assumption) (by decide) | exact Sz.div (by assumption) (by assumption) (by decide)
  | exact Sz.add (by assumption) (Sz.mul (by assumption) (by assumption) (by decide))); decide))
local macro_rules | `(tactic| walk_at "ed") => `(tactic| first
  | ((with_reducible apply ed_var); exact rfl)
  | with_reducible exact ed_c
  | with_reducible apply ed_ixL
  | with_reducible apply ed_op
  | with_reducible apply ed_call
  | with_reducible refine' ed_callP (es := [D.v (V.int 1)]) ?_ (fun _ => .cons .v .nil) ?_
  | with_reducible apply ed_tup
  | with_reducible apply ed_slT
  | with_reducible apply ed_cb
  | with_reducible apply ed_un
  | with_reducible apply ed_and
  | with_reducible apply ed_or
  | with_reducible apply ed_not
  | with_reducible apply ed_if)
local macro_rules | `(tactic| walk_at "et") => `(tactic| first
  | with_reducible apply et_test
  | with_reducible apply et_B
  | with_reducible apply et_and
  | with_reducible apply et_or
  | with_reducible apply et_not
  | with_reducible exact et_yes)
local macro_rules | `(tactic| walk_at "rd") => `(tactic| first
  | with_reducible exact rd_I0
  | with_reducible apply rd_I
  | with_reducible exact rd_eqR
  | with_reducible exact rd_neR
  | with_reducible exact rd_num
  | with_reducible exact rd_den
  | with_reducible exact rd_ix0
  | with_reducible exact rd_ix1
  | with_reducible exact rd_ix2
  | ((with_reducible apply rd_ixT); exact rfl)
  | with_reducible exact rd_isN
  | with_reducible exact rd_notN
  | ((with_reducible apply rd_eq); exact rfl)
  | ((with_reducible apply rd_ne); exact rfl)
  | with_reducible exact rd_catA
  | with_reducible exact rc_abs
  | with_reducible exact rc_max2)
local macro_rules | `(tactic| walk_at "ph") => `(tactic| first
  | with_reducible exact ph_is_whole | with_reducible exact ph_divisor_of | with_reducible apply ph_ratio | with_reducible apply ph_plus | with_reducible apply ph_minus | with_reducible apply ph_times | with_reducible apply ph_over | with_reducible apply ph_less | with_reducible apply ph_place_at | with_reducible apply ph_gone_on | with_reducible apply ph_meeting_moment)
local macro_rules | `(tactic| walk_at "ev") => `(tactic| first
  | walk_at "ed"
  | walk_at "et"
  | walk_at "rd"
  | with_reducible exact ea_nil
  | with_reducible apply ea_cons
  | with_reducible exact eo_none
  | with_reducible apply eo_some
  | walk_at "ph"
  | with_reducible apply s_seq
  | with_reducible apply s_set
  | with_reducible apply s_par
  | with_reducible apply s_ret
  | with_reducible apply s_if
  | with_reducible apply s_never
  | with_reducible apply s_next
  | exact Nat.le_of_ble_eq_true rfl
  | with_reducible intro _)
section
variable {P : Program} {w : World} {K : PySem.W.Frag} {mg : Str → Option Value} {base : Heap} {A : Adr}
theorem ok_is_whole {f : Addr} {fd : FuncData}  (F : Fun K "is_whole" "is_whole" s_is_whole f fd) (T : Txt K mg A)    : FnOk P w K mg base CX0 1 f fd ["thing"] (spD K (Ph_is_whole)) := by
  refine okD F sc_is_whole (fun ds S R Xs h => by (repeat (first | (obtain ⟨rfl, _⟩ := h; rfl) | (obtain ⟨_, h⟩ := h)))) (fun cdv AA outer s H E hr ds S R Xs h => ?_)
  obtain ⟨d, rfl, rfl, hd, hR⟩ := h
  refine ⟨_, (pss_one (ps_ret (pe_and (pe_callB (k_isi K) rfl T.b_isinstance PyProof.Rows.boot_isinstance (pa_cons (pv 0) (pa_cons (pe_bltn (v := V.ty "int") (by rfl) T.b_int PyProof.Rows.boot_int rfl) pa_nil))) (pe_one (pe_not (pe_callB (k_isi K) rfl T.b_isinstance PyProof.Rows.boot_isinstance (pa_cons (pv 0) (pa_cons (pe_bltn (v := V.ty "bool") (by rfl) T.b_bool PyProof.Rows.boot_bool rfl) pa_nil)))))))), ?_⟩
  try dsimp only [cxOf]
  have key : ∀ b1 b2 : Bool, PySem.W.kitOne K (.type (tyOf d)) (.type "int") = some b1 → PySem.W.kitOne K (.type (tyOf d)) (.type "bool") = some b2 → (b1 && !b2) = isInt d → ED K (tAndV (tCB (rIsi K) (tCons (tVar 0) (tCons (tC (V.ty "int")) tNil))) (tNotV (tCB (rIsi K) (tCons (tVar 0) (tCons (tC (V.ty "bool")) tNil))))) (startE N_is_whole [d]) [] (dB (isInt d)) := by
    intro b1 b2 k1 k2 e
    rw [← e]
    exact ed_and (ed_cb (ea_cons (ed_var rfl) (ea_cons ed_c ea_nil)) (rc_isi hd k1)) fun _ => ed_not (ed_cb (ea_cons (ed_var rfl) (ea_cons ed_c ea_nil)) (rc_isi hd k2))
  refine s_ret ?_ hR
  match d, hd, key with
  | .v (.int _), _, key => exact key true false (kit_ty (by show kitB "int" "int" = some true; decide +kernel)) (kit_ty (by show kitB "int" "bool" = some false; decide +kernel)) rfl
  | .v (.bl _), _, key => exact key true true (kit_ty (by show kitB "bool" "int" = some true; decide +kernel)) (kit_ty (by show kitB "bool" "bool" = some true; decide +kernel)) rfl
  | .v (.str _), _, key => exact key false false (kit_ty (by show kitB "str" "int" = some false; decide +kernel)) (kit_ty (by show kitB "str" "bool" = some false; decide +kernel)) rfl
  | .v .non, _, key => exact key false false (kit_ty (by show kitB "NoneType" "int" = some false; decide +kernel)) (kit_ty (by show kitB "NoneType" "bool" = some false; decide +kernel)) rfl
  | .t _, _, key => exact key false false (kit_ty (by show kitB "tuple" "int" = some false; decide +kernel)) (kit_ty (by show kitB "tuple" "bool" = some false; decide +kernel)) rfl
theorem ok_divisor_of {f : Addr} {fd : FuncData}  (F : Fun K "divisor_of" "divisor_of" s_divisor_of f fd) (T : Txt K mg A)    : FnOk P w K mg base CX0 1 f fd ["one", "other"] (spD K (Ph_divisor_of)) := by
  refine okD F sc_divisor_of (fun ds S R Xs h => by (repeat (first | (obtain ⟨rfl, _⟩ := h; rfl) | (obtain ⟨_, h⟩ := h)))) (fun cdv AA outer s H E hr ds S R Xs h => ?_)
  obtain ⟨i, j, rfl, rfl, hR⟩ := h
  refine ⟨_, (pss_cons (ps_while PassesOwn.never (pt_cmpR op_ne (pv 1) pe_int (nomark _)) (pss_one (ps_par (i := 0) (j := 1) (by rfl) sc_divisor_of.nd rfl rfl (by decide) rfl rfl (pa_cons (pv 1) (pa_cons (pe_op op_modN (pv 0) (pv 1)) pa_nil)) (by rfl))))
  (pss_one (ps_ret (pe_callB call_abs rfl T.b_abs PyProof.Rows.boot_abs (pa_cons (pv 0) pa_nil))))), ?_⟩
  try dsimp only [cxOf]
  refine s_seq ?_
  refine s_while (I := fun m env S => ∃ a b : Int, m = b.natAbs ∧ env = [some (dI a), some (dI b)] ∧ S = [] ∧ Int.gcd a b = Int.gcd i j) (m := j.natAbs) ⟨i, j, rfl, rfl, rfl, rfl⟩ ?_
  rintro m env S ⟨a, b, rfl, rfl, rfl, hg⟩
  refine evt_t (b := !decide (V.int b = V.int 0)) ?_ ?_
  · repeat' walk_at "ev"
  by_cases hb : b = 0
  · subst hb
    rw [if_neg (by simp)]
    apply s_ret
    · repeat' walk_at "ev"
    · rw [Int.gcd_zero_right] at hg
      have e : (if a < 0 then -a else a) = ((Int.gcd i j : Nat) : Int) := by rw [← hg]; split <;> omega
      rw [e]; exact hR
  · rw [if_pos (by simp [hb])]
    apply s_par
    · repeat' walk_at "ev"
      exact hb
    · exact ⟨(a.fmod b).natAbs, fmod_small a b hb, b, a.fmod b, rfl, rfl, rfl, by rw [gcd_fmod]; exact hg⟩
theorem ok_ratio {f : Addr} {fd : FuncData}  (F : C8.Fun K "ratio" "ratio" s_ratio f fd) (T : Txt K mg A)  (c_divisor_of : Cal P w K mg base 1 "divisor_of" Ph_divisor_of []) (c_is_whole : Cal P w K mg base 1 "is_whole" Ph_is_whole [])  : FnOk P w K mg base CX0 2 f fd ["top", "bottom"] (spD K (Ph_ratio)) := by
  refine okD8 F sc_ratio (fun ds S R Xs h => by (repeat (first | (obtain ⟨rfl, _⟩ := h; rfl) | (obtain ⟨_, h⟩ := h)))) (fun cdv AA outer s H E hr ds S R Xs h => ?_)
  obtain ⟨i, j, rfl, rfl, h0, hs, hR⟩ := h
  refine ⟨_, (pss_cons (ps_if (PW.pt (pw_or (pt_not (pt_val (pc c_is_whole (hr.mono (by decide)) rfl (pa_cons (pv 0) pa_nil)))) (pw_or (pt_not (pt_val (pc c_is_whole (hr.mono (by decide)) rfl (pa_cons (pv 1) pa_nil)))) (pw_or1 (pt_cmpR op_eq (pv 1) pe_int (nomark _)))))) (pss_one ps_never) pss_nil)
  (pss_cons (ps_set (i := 2) sc_ratio.nd rfl (Or.inl rfl) (pc c_divisor_of (hr.mono (by decide)) rfl (pa_cons (pv 0) (pa_cons (pv 1) pa_nil))))
  (pss_cons (ps_if (pt_cmpR op_lt (pv 1) pe_int (nomark _)) (pss_one (ps_set (i := 2) sc_ratio.nd rfl (Or.inl rfl) (pe_op op_sub pe_int (pv 2)))) pss_nil)
  (pss_one (ps_ret (pe_tup (pa_cons (pe_op op_fdivP (pv 0) (pv 2)) (pa_cons (pe_op op_fdivP (pv 1) (pv 2)) pa_nil)))))))), ?_⟩
  try dsimp only [cxOf]
  have hb := byOf_ne (t := i) h0
  have h1 : CDivP i (byOf i j) := ⟨hb, noPy_top h0 hs⟩
  have h2 : CDivP j (byOf i j) := ⟨hb, noPy_bot h0 hs⟩
  have e1 := top_by (t := i) h0
  have e2 := bot_by (t := i) h0
  have fin : R (.t [.v (.int (i.fdiv (byOf i j))), .v (.int (j.fdiv (byOf i j)))]) [] := by rw [e1, e2]; exact hR
  unfold byOf at h1 h2 fin
  repeat' walk_at "ev"
  · rename_i q; simp [h0] at q
  · rename_i q; rw [if_pos (of_decide_eq_true q)] at h1; exact h1
  · rename_i q; rw [if_pos (of_decide_eq_true q)] at h2; exact h2
  · rename_i q; rw [if_pos (of_decide_eq_true q)] at fin; exact fin
  · rename_i q; rw [if_neg (of_decide_eq_false q)] at h1; exact h1
  · rename_i q; rw [if_neg (of_decide_eq_false q)] at h2; exact h2
  · rename_i q; rw [if_neg (of_decide_eq_false q)] at fin; exact fin
theorem ok_plus {f : Addr} {fd : FuncData}  (F : Fun K "plus" "plus" s_plus f fd) (T : Txt K mg A)  (c_ratio : Cal P w K mg base 2 "ratio" Ph_ratio [])  : FnOk P w K mg base CX0 3 f fd ["one", "other"] (spD K (Ph_plus)) := by
  refine okD F sc_plus (fun ds S R Xs h => by (repeat (first | (obtain ⟨rfl, _⟩ := h; rfl) | (obtain ⟨_, h⟩ := h)))) (fun cdv AA outer s H E hr ds S R Xs h => ?_)
  obtain ⟨p, q, rfl, rfl, hp, hq, hpq, hR⟩ := h
  refine ⟨_, (pss_one (ps_ret (pc c_ratio (hr.mono (by decide)) rfl (pa_cons (pe_op op_add (pe_op op_mulW (pe_ix (k_ixT K) (pv 0) pe_int (fun _ _ => rfl)) (pe_ix (k_ixT K) (pv 1) pe_int (fun _ _ => rfl))) (pe_op op_mulW (pe_ix (k_ixT K) (pv 1) pe_int (fun _ _ => rfl)) (pe_ix (k_ixT K) (pv 0) pe_int (fun _ _ => rfl)))) (pa_cons (pe_op op_mulW (pe_ix (k_ixT K) (pv 0) pe_int (fun _ _ => rfl)) (pe_ix (k_ixT K) (pv 1) pe_int (fun _ _ => rfl))) pa_nil))))), ?_⟩
  try dsimp only [cxOf]
  rw [add_as] at hpq hR
  repeat' walk_at "ev"
  all_goals first | exact mulw hp.1 hq.2 | exact mulw hq.1 hp.2 | exact mulw hp.2 hq.2 | exact hR | exact den_ne p q | exact hpq
theorem ok_minus {f : Addr} {fd : FuncData}  (F : Fun K "minus" "minus" s_minus f fd) (T : Txt K mg A)  (c_ratio : Cal P w K mg base 2 "ratio" Ph_ratio [])  : FnOk P w K mg base CX0 3 f fd ["one", "other"] (spD K (Ph_minus)) := by
  refine okD F sc_minus (fun ds S R Xs h => by (repeat (first | (obtain ⟨rfl, _⟩ := h; rfl) | (obtain ⟨_, h⟩ := h)))) (fun cdv AA outer s H E hr ds S R Xs h => ?_)
  obtain ⟨p, q, rfl, rfl, hp, hq, hpq, hR⟩ := h
  refine ⟨_, (pss_one (ps_ret (pc c_ratio (hr.mono (by decide)) rfl (pa_cons (pe_op op_sub (pe_op op_mulW (pe_ix (k_ixT K) (pv 0) pe_int (fun _ _ => rfl)) (pe_ix (k_ixT K) (pv 1) pe_int (fun _ _ => rfl))) (pe_op op_mulW (pe_ix (k_ixT K) (pv 1) pe_int (fun _ _ => rfl)) (pe_ix (k_ixT K) (pv 0) pe_int (fun _ _ => rfl)))) (pa_cons (pe_op op_mulW (pe_ix (k_ixT K) (pv 0) pe_int (fun _ _ => rfl)) (pe_ix (k_ixT K) (pv 1) pe_int (fun _ _ => rfl))) pa_nil))))), ?_⟩
  try dsimp only [cxOf]
  rw [sub_as] at hpq hR
  repeat' walk_at "ev"
  all_goals first | exact mulw hp.1 hq.2 | exact mulw hq.1 hp.2 | exact mulw hp.2 hq.2 | exact hR | exact den_ne p q | exact hpq
theorem ok_times {f : Addr} {fd : FuncData}  (F : Fun K "times" "times" s_times f fd) (T : Txt K mg A)  (c_ratio : Cal P w K mg base 2 "ratio" Ph_ratio [])  : FnOk P w K mg base CX0 3 f fd ["one", "other"] (spD K (Ph_times)) := by
  refine okD F sc_times (fun ds S R Xs h => by (repeat (first | (obtain ⟨rfl, _⟩ := h; rfl) | (obtain ⟨_, h⟩ := h)))) (fun cdv AA outer s H E hr ds S R Xs h => ?_)
  obtain ⟨p, q, rfl, rfl, hp, hq, hpq, hR⟩ := h
  refine ⟨_, (pss_one (ps_ret (pc c_ratio (hr.mono (by decide)) rfl (pa_cons (pe_op op_mulW (pe_ix (k_ixT K) (pv 0) pe_int (fun _ _ => rfl)) (pe_ix (k_ixT K) (pv 1) pe_int (fun _ _ => rfl))) (pa_cons (pe_op op_mulW (pe_ix (k_ixT K) (pv 0) pe_int (fun _ _ => rfl)) (pe_ix (k_ixT K) (pv 1) pe_int (fun _ _ => rfl))) pa_nil))))), ?_⟩
  try dsimp only [cxOf]
  rw [mul_as] at hpq hR
  repeat' walk_at "ev"
  all_goals first | exact mulw hp.1 hq.1 | exact mulw hp.2 hq.2 | exact hR | exact den_ne p q | exact hpq
theorem ok_over {f : Addr} {fd : FuncData}  (F : Fun K "over" "over" s_over f fd) (T : Txt K mg A)  (c_ratio : Cal P w K mg base 2 "ratio" Ph_ratio [])  : FnOk P w K mg base CX0 3 f fd ["one", "other"] (spD K (Ph_over)) := by
  refine okD F sc_over (fun ds S R Xs h => by (repeat (first | (obtain ⟨rfl, _⟩ := h; rfl) | (obtain ⟨_, h⟩ := h)))) (fun cdv AA outer s H E hr ds S R Xs h => ?_)
  obtain ⟨p, q, rfl, rfl, h0, hp, hq, hpq, hR⟩ := h
  refine ⟨_, (pss_one (ps_ret (pc c_ratio (hr.mono (by decide)) rfl (pa_cons (pe_op op_mulW (pe_ix (k_ixT K) (pv 0) pe_int (fun _ _ => rfl)) (pe_ix (k_ixT K) (pv 1) pe_int (fun _ _ => rfl))) (pa_cons (pe_op op_mulW (pe_ix (k_ixT K) (pv 0) pe_int (fun _ _ => rfl)) (pe_ix (k_ixT K) (pv 1) pe_int (fun _ _ => rfl))) pa_nil))))), ?_⟩
  try dsimp only [cxOf]
  rw [div_as] at hpq hR
  repeat' walk_at "ev"
  all_goals first | exact mulw hp.1 hq.2 | exact mulw hp.2 hq.1 | exact hR | exact den_num_ne p h0 | exact hpq
theorem ok_less {f : Addr} {fd : FuncData}  (F : Fun K "less" "less" s_less f fd) (T : Txt K mg A)    : FnOk P w K mg base CX0 1 f fd ["one", "other"] (spD K (Ph_less)) := by
  refine okD F sc_less (fun ds S R Xs h => by (repeat (first | (obtain ⟨rfl, _⟩ := h; rfl) | (obtain ⟨_, h⟩ := h)))) (fun cdv AA outer s H E hr ds S R Xs h => ?_)
  obtain ⟨p, q, rfl, rfl, hp, hq, hR⟩ := h
  refine ⟨_, (pss_one (ps_ret (pe_cmpR op_lt (pe_op op_mulW (pe_ix (k_ixT K) (pv 0) pe_int (fun _ _ => rfl)) (pe_ix (k_ixT K) (pv 1) pe_int (fun _ _ => rfl))) (pe_op op_mulW (pe_ix (k_ixT K) (pv 1) pe_int (fun _ _ => rfl)) (pe_ix (k_ixT K) (pv 0) pe_int (fun _ _ => rfl))) (nomark _)))), ?_⟩
  try dsimp only [cxOf]
  have e : decide (p < q) = decide (p.num * (q.den : Int) < q.num * (p.den : Int)) := decide_eq_decide.mpr (Rat.lt_iff p q)
  rw [e] at hR
  repeat' walk_at "ev"
  all_goals first | exact mulw hp.1 hq.2 | exact mulw hq.1 hp.2 | exact hR
end
end PG
namespace PG
open PySem L2 RZ DL
local macro_rules | `(tactic| walk_at "sto") => `(tactic| first | exact (rfl : (_ : Sto)[0]? = _) | exact (rfl : (_ : Sto)[1]? = _) | exact (rfl : (_ : Sto)[2]? = _) | exact (rfl : (_ : Sto)[3]? = _))
local macro_rules | `(tactic| walk_at "lst") => `(tactic| first | exact Or.inl rfl | exact lst_of (rfl : (_ : Sto)[0]? = _) | exact lst_of (rfl : (_ : Sto)[1]? = _) | exact lst_of (rfl : (_ : Sto)[2]? = _) | exact lst_of (rfl : (_ : Sto)[3]? = _))
local macro_rules | `(tactic| walk_at "szc") => `(tactic| first | assumption | exact Sz.neg (by assumption))
local macro_rules | `(tactic| walk_at "sz") => `(tactic| (refine Sz.mono (m := ?_) ?_ ?_; rotate_left; (first
  | assumption
  | exact Sz.div (Sz.sub (by assumption) (by assumption)) (Sz.sub (by assumption) (by assumption)) (by decide)
  | exact Sz.sub (by assumption) (by assumption) | exact Sz.add (by assumption) (by assumption) | exact Sz.mul (by assumption) (by assumption) (by decide) | exact Sz.div (by assumption) (by assumption) (by decide)
  | exact Sz.add (by assumption) (Sz.mul (by assumption) (by assumption) (by decide))); decide))
local macro_rules | `(tactic| walk_at "ed") => `(tactic| first
  | ((with_reducible apply ed_var); exact rfl)
  | with_reducible exact ed_c
  | with_reducible apply ed_ixL
  | with_reducible apply ed_op
  | with_reducible apply ed_call
  | with_reducible refine' ed_callP (es := [D.v (V.int 1)]) ?_ (fun _ => .cons .v .nil) ?_
  | with_reducible apply ed_tup
  | with_reducible apply ed_slT
  | with_reducible apply ed_cb
  | with_reducible apply ed_un
  | with_reducible apply ed_and
  | with_reducible apply ed_or
  | with_reducible apply ed_not
  | with_reducible apply ed_if)
local macro_rules | `(tactic| walk_at "et") => `(tactic| first
  | with_reducible apply et_test
  | with_reducible apply et_B
  | with_reducible apply et_and
  | with_reducible apply et_or
  | with_reducible apply et_not
  | with_reducible exact et_yes)
local macro_rules | `(tactic| walk_at "rd") => `(tactic| first
  | with_reducible exact rd_I0
  | with_reducible apply rd_I
  | with_reducible exact rd_eqR
  | with_reducible exact rd_neR
  | with_reducible exact rd_num
  | with_reducible exact rd_den
  | with_reducible exact rd_ix0
  | with_reducible exact rd_ix1
  | with_reducible exact rd_ix2
  | ((with_reducible apply rd_ixT); exact rfl)
  | with_reducible exact rd_isN
  | with_reducible exact rd_notN
  | ((with_reducible apply rd_eq); exact rfl)
  | ((with_reducible apply rd_ne); exact rfl)
  | with_reducible exact rd_catA
  | with_reducible exact rc_abs
  | with_reducible exact rc_max2)
local macro_rules | `(tactic| walk_at "ph") => `(tactic| first
  | with_reducible exact ph_is_whole | with_reducible exact ph_divisor_of | with_reducible apply ph_ratio | with_reducible apply ph_plus | with_reducible apply ph_minus | with_reducible apply ph_times | with_reducible apply ph_over | with_reducible apply ph_less | with_reducible apply ph_place_at | with_reducible apply ph_gone_on | with_reducible apply ph_meeting_moment)
local macro_rules | `(tactic| walk_at "ev") => `(tactic| first
  | walk_at "ed"
  | walk_at "et"
  | walk_at "rd"
  | with_reducible exact ea_nil
  | with_reducible apply ea_cons
  | with_reducible exact eo_none
  | with_reducible apply eo_some
  | walk_at "ph"
  | with_reducible apply s_seq
  | with_reducible apply s_set
  | with_reducible apply s_par
  | with_reducible apply s_ret
  | with_reducible apply s_if
  | with_reducible apply s_never
  | with_reducible apply s_next
  | exact Nat.le_of_ble_eq_true rfl
  | with_reducible intro _)
section
variable {P : Program} {w : World} {K : PySem.W.Frag} {mg : Str → Option Value} {base : Heap} {A : Adr}
theorem ok_place_at {f : Addr} {fd : FuncData}  (F : Fun K "place_at" "place_at" s_place_at f fd) (T : Txt K mg A)  (c_plus : Cal P w K mg base 3 "plus" Ph_plus []) (c_times : Cal P w K mg base 3 "times" Ph_times [])  : FnOk P w K mg base CX0 4 f fd ["thing", "t"] (spD K (Ph_place_at)) := by
  refine okD F sc_place_at (fun ds S R Xs h => by (repeat (first | (obtain ⟨rfl, _⟩ := h; rfl) | (obtain ⟨_, h⟩ := h)))) (fun cdv AA outer s H E hr ds S R Xs h => ?_)
  obtain ⟨p, v, t, r, rfl, rfl, hp, hv, ht, hq, hR⟩ := h
  refine ⟨_, (pss_one (ps_ret (pc c_plus (hr.mono (by decide)) rfl (pa_cons (pe_ix (k_ixT K) (pv 0) (C8.pe_gc rfl T.g_PLACE) (fun _ _ => rfl)) (pa_cons (pc c_times (hr.mono (by decide)) rfl (pa_cons (pe_ix (k_ixT K) (pv 0) (C8.pe_gc rfl T.g_SPEED) (fun _ _ => rfl)) (pa_cons (pv 1) pa_nil))) pa_nil))))), ?_⟩
  try dsimp only [cxOf]
  repeat' walk_at "ev"
  all_goals first | exact hR | exact Sz.up (by assumption) | exact mul_up hv ht
theorem ok_gone_on {f : Addr} {fd : FuncData}  (F : Fun K "gone_on" "gone_on" s_gone_on f fd) (T : Txt K mg A)  (c_place_at : Cal P w K mg base 4 "place_at" Ph_place_at [])  : FnOk P w K mg base CX0 5 f fd ["thing", "t"] (spD K (Ph_gone_on)) := by
  refine okD F sc_gone_on (fun ds S R Xs h => by (repeat (first | (obtain ⟨rfl, _⟩ := h; rfl) | (obtain ⟨_, h⟩ := h)))) (fun cdv AA outer s H E hr ds S R Xs h => ?_)
  obtain ⟨p, v, t, r, rfl, rfl, hr', hp, hv, ht, hq, hR⟩ := h
  refine ⟨_, (pss_one (ps_ret (pe_op (k_catA K) (pe_tup (pa_cons (pc c_place_at (hr.mono (by decide)) rfl (pa_cons (pv 0) (pa_cons (pv 1) pa_nil))) pa_nil)) (pe_slice (k_slT K) (pv 0) (po_some pe_int) po_none)))), ?_⟩
  try dsimp only [cxOf]
  apply s_ret
  · refine ed_op (x := .t [dR (p + v * t)]) (y := .t (dR v :: r)) ?_ (ed_is (ed_slT (ed_var rfl) (eo_some ed_c) eo_none) (by rw [cut_tail])) (rd_catA (by simp; omega))
    repeat' walk_at "ev"
    all_goals assumption
  · exact hR
theorem ok_walls_at {f : Addr} {fd : FuncData}  (F : Fun K "walls_at" "walls_at" s_walls_at f fd) (T : Txt K mg A)  (c_gone_on : Cal P w K mg base 5 "gone_on" Ph_gone_on [])  : FnOk P w K mg base CX0 6 f fd ["walls", "t"] (spD K (Ph_walls_at)) := by
  refine okD F sc_walls_at (fun ds S R Xs h => by (repeat (first | (obtain ⟨rfl, _⟩ := h; rfl) | (obtain ⟨_, h⟩ := h)))) (fun cdv AA outer s H E hr ds S R Xs h => ?_)
  obtain ⟨⟨lo, hi⟩, t, rfl, rfl, ⟨hlo, hhi⟩, ht, ⟨hlo', hhi'⟩, hR⟩ := h
  refine ⟨_, (pss_cons (ps_set (i := 2) sc_walls_at.nd rfl (Or.inl rfl) (pe_lst pa_nil))
  (pss_cons (ps_for PassesOwn.never rfl (pi_tup (pv 0)) (pg_name (i := 3) sc_walls_at.nd rfl (Or.inl rfl)) (pss_cons (ps_if (pt_cmpR op_notN (pv 3) pe_non (nomark _)) (pss_one (ps_set (i := 3) sc_walls_at.nd rfl (Or.inl rfl) (pc c_gone_on (hr.mono (by decide)) rfl (pa_cons (pv 3) (pa_cons (pv 1) pa_nil))))) pss_nil)
  (pss_one (ps_expr (pe_bm PySem.F.plainAttrs_list PySem.F.slot_list_append PySem.F.type_list_append mt_append (pv 2) (pa_cons (pv 3) pa_nil))))))
  (pss_one (ps_ret (pe_callTy (k_tuple K) rfl T.b_tuple PyProof.Rows.boot_tuple (pa_cons (pv 2) pa_nil)))))), ?_⟩
  try dsimp only [cxOf]
  apply s_seq
  refine s_setL (el_lst ea_nil) (fun x => ?_)
  apply s_seq
  refine s_for (ei_tup (ds := [lo, hi].map dWl) (ed_var rfl) ⟨fun i env S => i ≤ 2 ∧ ∃ o, env = [some (dWls ⟨lo, hi⟩), some (dR t), some (.v x), o] ∧ S = [(x, .l (([lo, hi].take i).map fun w => dWl (wlAt t w)))], ⟨by decide, none, rfl, rfl⟩, fun _ _ _ _ _ => trivial, ?_, ?_⟩)
  · rintro i d env' S' hd ⟨hi2, o, rfl, rfl⟩
    rw [List.getElem?_map] at hd
    obtain ⟨wl, hw, rfl⟩ := Option.map_eq_some_iff.mp hd
    have hz : WlSz wl ∧ WlSz (wlAt t wl) := by
      match i, hw with
      | 0, hw => cases hw; exact ⟨hlo, hlo'⟩
      | 1, hw => cases hw; exact ⟨hhi, hhi'⟩
    obtain ⟨hz1, hz2⟩ := hz
    have hi3 : i < 2 := (List.getElem?_eq_some_iff.mp hw).1
    have tk : [lo, hi].take (i + 1) = [lo, hi].take i ++ [wl] := by rw [List.take_succ, hw]; rfl
    refine ⟨_, eg_name, ?_⟩
    apply s_seq
    cases wl with
    | none =>
      refine s_ifF (et_test (ed_op (ed_var rfl) ed_c rd_notN)) rfl (s_next ?_)
      refine s_app (ed_var rfl) (k := 0) rfl (ed_var rfl) (by simp; omega) ⟨hi3, _, rfl, ?_⟩
      rw [tk, List.map_append]; rfl
    | some wl =>
      have h1 := hz1 wl rfl
      have h2 := hz2 _ rfl
      refine s_ifT (et_test (ed_op (ed_var rfl) ed_c rd_notN)) rfl (s_set (ed_call (ea_cons (ed_var rfl) (ea_cons (ed_var rfl) ea_nil)) (ph_gone_on (by decide) h1.1 h1.2 ht h2.1)) ?_)
      refine s_app (ed_var rfl) (k := 0) rfl (ed_var rfl) (by simp; omega) ⟨hi3, _, rfl, ?_⟩
      rw [tk, List.map_append]; rfl
  · rintro env' S' ⟨hi2, o, rfl, rfl⟩
    exact s_ret0 (ed_tupleL (ed_var rfl) (lst_of (k := 0) rfl)) hR
theorem ok_meeting_moment {f : Addr} {fd : FuncData}  (F : Fun K "meeting_moment" "meeting_moment" s_meeting_moment f fd) (T : Txt K mg A)  (c_less : Cal P w K mg base 1 "less" Ph_less []) (c_minus : Cal P w K mg base 3 "minus" Ph_minus []) (c_over : Cal P w K mg base 3 "over" Ph_over [])  : FnOk P w K mg base CX0 4 f fd ["left", "right"] (spD K (Ph_meeting_moment)) := by
  refine okD F sc_meeting_moment (fun ds S R Xs h => by (repeat (first | (obtain ⟨rfl, _⟩ := h; rfl) | (obtain ⟨_, h⟩ := h)))) (fun cdv AA outer s H E hr ds S R Xs h => ?_)
  obtain ⟨p, v, p', v', r, r', rfl, rfl, hp, hv, hp', hv', hm, hR⟩ := h
  refine ⟨_, (pss_cons (ps_if (pt_not (pt_val (pc c_less (hr.mono (by decide)) rfl (pa_cons (pe_ix (k_ixT K) (pv 1) (C8.pe_gc rfl T.g_SPEED) (fun _ _ => rfl)) (pa_cons (pe_ix (k_ixT K) (pv 0) (C8.pe_gc rfl T.g_SPEED) (fun _ _ => rfl)) pa_nil))))) (pss_one (ps_ret pe_non)) pss_nil)
  (pss_one (ps_ret (pc c_over (hr.mono (by decide)) rfl (pa_cons (pc c_minus (hr.mono (by decide)) rfl (pa_cons (pe_ix (k_ixT K) (pv 1) (C8.pe_gc rfl T.g_PLACE) (fun _ _ => rfl)) (pa_cons (pe_ix (k_ixT K) (pv 0) (C8.pe_gc rfl T.g_PLACE) (fun _ _ => rfl)) pa_nil))) (pa_cons (pc c_minus (hr.mono (by decide)) rfl (pa_cons (pe_ix (k_ixT K) (pv 0) (C8.pe_gc rfl T.g_SPEED) (fun _ _ => rfl)) (pa_cons (pe_ix (k_ixT K) (pv 1) (C8.pe_gc rfl T.g_SPEED) (fun _ _ => rfl)) pa_nil))) pa_nil)))))), ?_⟩
  try dsimp only [cxOf]
  have eq : meeting p v p' v' = if v' < v then some ((p' - p) / (v - v')) else none := rfl
  rw [eq] at hR hm
  repeat' walk_at "ev"
  all_goals try (first | exact Sz.up (by assumption) | exact sub_up (by assumption) (by assumption))
  · rename_i q
    have q' : ¬ v' < v := by simpa using q
    rw [if_neg q'] at hR; exact hR
  · rename_i q
    have q' : v' < v := by simpa using q
    grind
  · rename_i q
    have q' : v' < v := by simpa using q
    exact (hm _ (if_pos q')).up
  · rename_i q
    have q' : v' < v := by simpa using q
    rw [if_pos q'] at hR; exact hR
theorem ok_row_at {f : Addr} {fd : FuncData}  (F : Fun K "row_at" "row_at" s_row_at f fd) (T : Txt K mg A)  (c_gone_on : Cal P w K mg base 5 "gone_on" Ph_gone_on [])  : FnOk P w K mg base CX0 6 f fd ["row", "t"] (spD K (Ph_row_at)) := by
  refine okD F sc_row_at (fun ds S R Xs h => by (repeat (first | (obtain ⟨rfl, _⟩ := h; rfl) | (obtain ⟨_, h⟩ := h)))) (fun cdv AA outer s H E hr ds S R Xs h => ?_)
  obtain ⟨r, t, rfl, rfl, ⟨hl, hz⟩, ht, ⟨hl', hz'⟩, hR⟩ := h
  refine ⟨_, (pss_one (ps_ret (pe_callTy (k_tuple K) rfl T.b_tuple PyProof.Rows.boot_tuple (pa_cons (pe_lc (own := [("ball", 2)]) rfl sc_row_at.nd (pi_tup (pv 0)) (blkOk_by (own := [("ball", 2)]) (N := N_row_at) (sc := defScope s_row_at) (by decide +kernel)) (by exact fun _ _ _ _ _ => (pg_name (i := 2) sc_row_at.nd rfl (Or.inl rfl))) (by exact fun _ _ _ _ _ => pts_nil) (by exact fun _ _ _ _ _ => (pc c_gone_on (hr.mono (by decide)) rfl (pa_cons (pv 2) (pa_cons (pv 1) pa_nil))))) pa_nil)))), ?_⟩
  try dsimp only [cxOf]
  refine s_ret (ed_tupleN (el_mapT (l := r) (da := dBall) (f := fun b => dBall (b.at t)) (ip_tup (ed_var rfl)) (by omega) fun b hb => ⟨_, egc_name, ?_⟩)) ?_
  · have h1 := hz b hb
    have h2 := hz' _ (List.mem_map_of_mem hb)
    exact ed_call (ea_cons (ed_var rfl) (ea_cons (ed_var rfl) ea_nil)) (ph_gone_on (by simp) h1.1 h1.2 ht h2.1)
  · have e : r.map (fun b => dBall (b.at t)) = (r.map (·.at t)).map dBall := by rw [List.map_map]; rfl
    rw [e]; exact hR
theorem ok_wall_named {f : Addr} {fd : FuncData}  (F : Fun K "wall_named" "wall_named" s_wall_named f fd) (T : Txt K mg A)    : FnOk P w K mg base CX0 1 f fd ["walls", "where"] (spD K (Ph_wall_named)) := by
  refine okD F sc_wall_named (fun ds S R Xs h => by (repeat (first | (obtain ⟨rfl, _⟩ := h; rfl) | (obtain ⟨_, h⟩ := h)))) (fun cdv AA outer s H E hr ds S R Xs h => ?_)
  obtain ⟨⟨lo, hi⟩, x, rfl, rfl, hR⟩ := h
  refine ⟨_, (pss_cons (ps_if (pt_cmpR op_eq (pv 1) pe_str (nomark _)) (pss_one (ps_ret (pe_ix (k_ixT K) (pv 0) (C8.pe_gc rfl T.g_LOW) (fun _ _ => rfl)))) pss_nil)
  (pss_cons (ps_if (pt_cmpR op_eq (pv 1) pe_str (nomark _)) (pss_one (ps_ret (pe_ix (k_ixT K) (pv 0) (C8.pe_gc rfl T.g_HIGH) (fun _ _ => rfl)))) pss_nil)
  (pss_one (ps_ret pe_non)))), ?_⟩
  try dsimp only [cxOf]
  apply s_seq
  cases x with
  | low => exact s_ifT (et_test (ed_op (ed_var rfl) ed_c (rd_eq rfl))) rfl (s_ret (ed_op (ed_var rfl) ed_c rd_ix0) hR)
  | high =>
    refine s_ifF (et_test (ed_op (ed_var rfl) ed_c (rd_eq rfl))) rfl (s_next (s_seq ?_))
    exact s_ifT (et_test (ed_op (ed_var rfl) ed_c (rd_eq rfl))) rfl (s_ret (ed_op (ed_var rfl) ed_c rd_ix1) hR)
  | no =>
    refine s_ifF (et_test (ed_op (ed_var rfl) ed_c (rd_eq rfl))) rfl (s_next (s_seq ?_))
    exact s_ifF (et_test (ed_op (ed_var rfl) ed_c (rd_eq rfl))) rfl (s_next (s_ret ed_c hR))
theorem ok_comes_to {f : Addr} {fd : FuncData}  (F : Fun K "comes_to" "comes_to" s_comes_to f fd) (T : Txt K mg A)  (c_less : Cal P w K mg base 1 "less" Ph_less [])  : FnOk P w K mg base CX0 2 f fd ["ball", "walls", "where"] (spD K (Ph_comes_to)) := by
  refine okD F sc_comes_to (fun ds S R Xs h => by (repeat (first | (obtain ⟨rfl, _⟩ := h; rfl) | (obtain ⟨_, h⟩ := h)))) (fun cdv AA outer s H E hr ds S R Xs h => ?_)
  obtain ⟨⟨p, v, m⟩, ⟨lo, hi⟩, x, rfl, rfl, ⟨hp, hv⟩, ⟨hlo, hhi⟩, g1, g2, hR⟩ := h
  refine ⟨_, (pss_cons (ps_if (pt_cmpR op_eq (pv 2) pe_str (nomark _)) (pss_one (ps_ret (pc c_less (hr.mono (by decide)) rfl (pa_cons (pe_ix (k_ixT K) (pv 0) (C8.pe_gc rfl T.g_SPEED) (fun _ _ => rfl)) (pa_cons (pe_ix (k_ixT K) (pe_ix (k_ixT K) (pv 1) (C8.pe_gc rfl T.g_LOW) (fun _ _ => rfl)) (C8.pe_gc rfl T.g_SPEED) (fun _ _ => rfl)) pa_nil))))) pss_nil)
  (pss_one (ps_ret (pe_and (pe_cmpR op_eq (pv 2) pe_str (nomark _)) (pe_one (pc c_less (hr.mono (by decide)) rfl (pa_cons (pe_ix (k_ixT K) (pe_ix (k_ixT K) (pv 1) (C8.pe_gc rfl T.g_HIGH) (fun _ _ => rfl)) (C8.pe_gc rfl T.g_SPEED) (fun _ _ => rfl)) (pa_cons (pe_ix (k_ixT K) (pv 0) (C8.pe_gc rfl T.g_SPEED) (fun _ _ => rfl)) pa_nil)))))))), ?_⟩
  try dsimp only [cxOf]
  apply s_seq
  cases x with
  | low =>
    obtain ⟨l, rfl⟩ : ∃ l, lo = some l := by
      cases lo with
      | none => exact absurd rfl (g1 rfl)
      | some l => exact ⟨l, rfl⟩
    refine s_ifT (et_test (ed_op (ed_var rfl) ed_c (rd_eq rfl))) rfl (s_ret (ed_call (ea_cons (ed_op (ed_var rfl) ed_c rd_ix1) (ea_cons (ed_op (ed_op (ed_var rfl) ed_c rd_ix0) ed_c rd_ix1) ea_nil)) (ph_less hv.up (hlo l rfl).2.up)) hR)
  | high =>
    obtain ⟨l, rfl⟩ : ∃ l, hi = some l := by
      cases hi with
      | none => exact absurd rfl (g2 rfl)
      | some l => exact ⟨l, rfl⟩
    refine s_ifF (et_test (ed_op (ed_var rfl) ed_c (rd_eq rfl))) rfl (s_next ?_)
    exact s_ret (ed_andT (ed_op (ed_var rfl) ed_c (rd_eq rfl)) rfl (ed_call (ea_cons (ed_op (ed_op (ed_var rfl) ed_c rd_ix1) ed_c rd_ix1) (ea_cons (ed_op (ed_var rfl) ed_c rd_ix1) ea_nil)) (ph_less (hhi l rfl).2.up hv.up))) hR
  | no =>
    refine s_ifF (et_test (ed_op (ed_var rfl) ed_c (rd_eq rfl))) rfl (s_next ?_)
    exact s_ret (ed_andF (ed_op (ed_var rfl) ed_c (rd_eq rfl)) rfl) hR
theorem ok_wall_there {f : Addr} {fd : FuncData}  (F : Fun K "wall_there" "wall_there" s_wall_there f fd) (T : Txt K mg A)    : FnOk P w K mg base CX0 1 f fd ["walls", "place"] (spD K (Ph_wall_there)) := by
  refine okD F sc_wall_there (fun ds S R Xs h => by (repeat (first | (obtain ⟨rfl, _⟩ := h; rfl) | (obtain ⟨_, h⟩ := h)))) (fun cdv AA outer s H E hr ds S R Xs h => ?_)
  obtain ⟨⟨lo, hi⟩, p, rfl, rfl, hR⟩ := h
  refine ⟨_, (pss_cons (ps_if (PW.pt (pw_and (pt_cmpR op_notN (pe_ix (k_ixT K) (pv 0) (C8.pe_gc rfl T.g_LOW) (fun _ _ => rfl)) pe_non (nomark _)) (pw_and1 (pt_cmpR (k_eqD K hr.units) (pe_ix (k_ixT K) (pe_ix (k_ixT K) (pv 0) (C8.pe_gc rfl T.g_LOW) (fun _ _ => rfl)) (C8.pe_gc rfl T.g_PLACE) (fun _ _ => rfl)) (pv 1) (nomark _))))) (pss_one (ps_ret pe_str)) pss_nil)
  (pss_cons (ps_if (PW.pt (pw_and (pt_cmpR op_notN (pe_ix (k_ixT K) (pv 0) (C8.pe_gc rfl T.g_HIGH) (fun _ _ => rfl)) pe_non (nomark _)) (pw_and1 (pt_cmpR (k_eqD K hr.units) (pe_ix (k_ixT K) (pe_ix (k_ixT K) (pv 0) (C8.pe_gc rfl T.g_HIGH) (fun _ _ => rfl)) (C8.pe_gc rfl T.g_PLACE) (fun _ _ => rfl)) (pv 1) (nomark _))))) (pss_one (ps_ret pe_str)) pss_nil)
  (pss_one (ps_ret pe_str)))), ?_⟩
  try dsimp only [cxOf]
  have eq : wallThere ⟨lo, hi⟩ p = if isAt lo p then .low else if isAt hi p then .high else .no := rfl
  rw [eq] at hR
  refine s_seq (s_if (b := isAt lo p) ?_ (fun e => s_ret ed_c (by rw [e] at hR; exact hR)) (fun e => s_next (s_seq (s_if (b := isAt hi p) ?_ (fun e2 => s_ret ed_c (by rw [e, e2] at hR; exact hR)) (fun e2 => s_next (s_ret ed_c (by rw [e, e2] at hR; exact hR)))))))
  · cases lo with
    | none => exact et_andF (et_test (ed_op (ed_op (ed_var rfl) ed_c rd_ix0) ed_c rd_notN)) rfl
    | some l => exact et_andT (et_test (ed_op (ed_op (ed_var rfl) ed_c rd_ix0) ed_c rd_notN)) rfl (et_test (ed_op (ed_op (ed_op (ed_var rfl) ed_c rd_ix0) ed_c rd_ix0) (ed_var rfl) rd_eqR))
  · cases hi with
    | none => exact et_andF (et_test (ed_op (ed_op (ed_var rfl) ed_c rd_ix1) ed_c rd_notN)) rfl
    | some l => exact et_andT (et_test (ed_op (ed_op (ed_var rfl) ed_c rd_ix1) ed_c rd_notN)) rfl (et_test (ed_op (ed_op (ed_op (ed_var rfl) ed_c rd_ix1) ed_c rd_ix0) (ed_var rfl) rd_eqR))
end
end PG
namespace PG
open PySem L2 RZ DL
section
variable {P : Program} {w : World} {K : PySem.W.Frag} {mg : Str → Option Value} {base : Heap} {A : Adr}
theorem ok_least_moment {f : Addr} {fd : FuncData}  (F : Fun K "least_moment" "least_moment" s_least_moment f fd) (T : Txt K mg A)  (c_less : Cal P w K mg base 1 "less" Ph_less []) (c_meeting_moment : Cal P w K mg base 4 "meeting_moment" Ph_meeting_moment [])  : FnOk P w K mg base CX0 5 f fd ["row", "walls"] (spD K (Ph_least_moment)) := by
  refine okD F sc_least_moment (fun ds S R Xs h => by (repeat (first | (obtain ⟨rfl, _⟩ := h; rfl) | (obtain ⟨_, h⟩ := h)))) (fun cdv AA outer s H E hr ds S R Xs h => ?_)
  obtain ⟨r, ⟨lo, hi⟩, rfl, rfl, ⟨hl, hz⟩, ⟨hlo, hhi⟩, hm, hR⟩ := h
  refine ⟨_, (pss_cons (ps_set (i := 2) sc_least_moment.nd rfl (Or.inl rfl) (pe_op op_cat (pe_lc (own := [("wall", 3)]) rfl sc_least_moment.nd (pi_tup (pe_slice (k_slT K) (pv 1) po_none (po_some (C8.pe_gc rfl T.g_HIGH)))) (blkOk_by (own := [("wall", 3)]) (N := N_least_moment) (sc := defScope s_least_moment) (by decide +kernel)) (by exact fun _ _ _ _ _ => (pg_name (i := 3) sc_least_moment.nd rfl (Or.inl rfl))) (by exact fun _ _ _ _ _ => (pts_one (pt_cmpR op_notN (pv 3) pe_non (nomark _)))) (by exact fun _ _ _ _ _ => (pv 3))) (pe_callTy (k_list K) rfl T.b_list PyProof.Rows.boot_list (pa_cons (pv 0) pa_nil))))
  (pss_cons (ps_expr (pe_bm PySem.F.plainAttrs_list PySem.F.slot_list_extend PySem.F.type_list_extend mt_extend (pv 2) (pa_cons (pe_lc (own := [("wall", 3)]) rfl sc_least_moment.nd (pi_tup (pe_slice (k_slT K) (pv 1) (po_some (C8.pe_gc rfl T.g_HIGH)) po_none)) (blkOk_by (own := [("wall", 3)]) (N := N_least_moment) (sc := defScope s_least_moment) (by decide +kernel)) (by exact fun _ _ _ _ _ => (pg_name (i := 3) sc_least_moment.nd rfl (Or.inl rfl))) (by exact fun _ _ _ _ _ => (pts_one (pt_cmpR op_notN (pv 3) pe_non (nomark _)))) (by exact fun _ _ _ _ _ => (pv 3))) pa_nil)))
  (pss_cons (ps_set (i := 4) sc_least_moment.nd rfl (Or.inl rfl) pe_non)
  (pss_cons (ps_for PassesOwn.never rfl (pi_zipA rfl T.b_zip (pa_cons (pv 2) (pa_cons (pe_slice (k_slL K) (pv 2) (po_some pe_int) po_none) pa_nil))) (k_gtup K 2 rfl (pgs_cons (pg_name (i := 5) sc_least_moment.nd rfl (Or.inl rfl)) (pgs_cons (pg_name (i := 6) sc_least_moment.nd rfl (Or.inl rfl)) pgs_nil))) (pss_cons (ps_set (i := 7) sc_least_moment.nd rfl (Or.inl rfl) (pc c_meeting_moment (hr.mono (by decide)) rfl (pa_cons (pv 5) (pa_cons (pv 6) pa_nil))))
  (pss_one (ps_if (PW.pt (pw_and (pt_cmpR op_notN (pv 7) pe_non (nomark _)) (pw_and1 (PW.pt (pw_or (pt_cmpR op_isN (pv 4) pe_non (nomark _)) (pw_or1 (pt_val (pc c_less (hr.mono (by decide)) rfl (pa_cons (pv 7) (pa_cons (pv 4) pa_nil)))))))))) (pss_one (ps_set (i := 4) sc_least_moment.nd rfl (Or.inl rfl) (pv 7))) pss_nil))))
  (pss_one (ps_ret (pv 4))))))), ?_⟩
  try dsimp only [cxOf]
  have hlen := thingsX_len r ⟨lo, hi⟩
  have hsz := thingsX_sz (w := ⟨lo, hi⟩) hz ⟨hlo, hhi⟩
  have hdx := thingsX_dX r ⟨lo, hi⟩
  have hth := things_X r ⟨lo, hi⟩
  have eq : least r ⟨lo, hi⟩ = leastOf ((thingsX r ⟨lo, hi⟩).map fun x => (x.1, x.2.1)) none := by rw [← hth]; rfl
  rw [hth] at hm
  rw [eq] at hR
  generalize hL : thingsX r ⟨lo, hi⟩ = L at *
  refine s_seq (s_setL (el_catNN (el_lcT (l := [lo]) (da := dWl) (f := fun o => o.map fun w => dX (wlX w)) (ip_tup (ed_is (ed_slT (ed_var rfl) eo_none (eo_some ed_c)) (by rw [cut_head]; rfl))) (by simp) ?_) (el_listT (ed_var rfl)) ?_) (fun x => s_seq (s_dropE (ev_ext (ed_var rfl) (k := 0) rfl (el_lcT (l := [hi]) (da := dWl) (f := fun o => o.map fun w => dX (wlX w)) (ip_tup (ed_is (ed_slT (ed_var rfl) (eo_some ed_c) eo_none) (by rw [cut_tail]; rfl))) (by simp) ?_) ?_ ?_))))
  · intro a ha
    refine ⟨_, !isN (dWl a), egc_name, et_test (ed_op (ed_var rfl) ed_c rd_notN), fun z => ?_, fun z => ?_⟩
    · cases a with
      | none => cases z
      | some w => exact ⟨_, rfl, ed_var rfl⟩
    · cases a with
      | none => rfl
      | some w => cases z
  · have h1 : ([lo].filterMap fun o => o.map fun w => dX (wlX w)).length ≤ 1 := List.length_filterMap_le _ _
    rw [List.length_map]; omega
  · intro a ha
    refine ⟨_, !isN (dWl a), egc_name, et_test (ed_op (ed_var rfl) ed_c rd_notN), fun z => ?_, fun z => ?_⟩
    · cases a with
      | none => cases z
      | some w => exact ⟨_, rfl, ed_var rfl⟩
    · cases a with
      | none => rfl
      | some w => cases z
  · have h1 : ([lo].filterMap fun o => o.map fun w => dX (wlX w)).length ≤ 1 := List.length_filterMap_le _ _
    have h2 : ([hi].filterMap fun o => o.map fun w => dX (wlX w)).length ≤ 1 := List.length_filterMap_le _ _
    rw [List.length_append, List.length_map]; omega
  refine (?_ : EvS K E XF _ _ [(x, .l _)] _)
  rw [hdx]
  refine s_seq (s_set ed_c (s_seq (s_for (ei_zipL (eva_cons (ev_d (ed_var rfl) (eva_cons (ev_l (el_is (el_slL (ed_var rfl) (lst_of (k := 0) rfl) (eo_some ed_c) eo_none) (cut_tail' _)) fun y => eva_nil ⟨.v x, .v y, L.map dX, (L.map dX).tail, rfl, lst_of (k := 1) rfl, lst_of (k := 0) rfl, ?_⟩))))))))
  have ez : zipD (L.map dX) (L.map dX).tail = (L.zip L.tail).map fun p => .t [dX p.1, dX p.2] := by rw [← List.map_tail, zipD_map]
  rw [ez]
  refine ⟨fun i env S => ∃ best o3 o5 o6 o7, env = [some (dRow r), some (dWls ⟨lo, hi⟩), some (.v x), o3, some (dOR best), o5, o6, o7] ∧ S = [(y, .l (L.map dX).tail), (x, .l (L.map dX))] ∧ leastOf ((L.map fun x => (x.1, x.2.1)).drop i) best = leastOf (L.map fun x => (x.1, x.2.1)) none ∧ ∀ t, best = some t → Sz SB t, ⟨none, none, none, none, none, rfl, rfl, rfl, fun _ z => nomatch z⟩, ?_, ?_, ?_⟩
  · rintro i env' S' _ ⟨best, o3, o5, o6, o7, rfl, rfl, _, _⟩
    exact ⟨lst_of (k := 1) rfl, lst_of (k := 0) rfl⟩
  · rintro i d env' S' hd ⟨best, o3, o5, o6, o7, rfl, rfl, hb, hbz⟩
    rw [List.getElem?_map] at hd
    obtain ⟨⟨p, q⟩, hpq, rfl⟩ := Option.map_eq_some_iff.mp hd
    have hmem := List.mem_of_getElem? hpq
    have hst := leastOf_step (fun x : Rat × Rat × List D => (x.1, x.2.1)) best hpq
    obtain ⟨hp, hq⟩ := zip_tail_get hpq
    have zp := hsz p (List.mem_of_getElem? hp)
    have zq := hsz q (List.mem_of_getElem? hq)
    have zm := hm _ _ (zip_tail_mem (fun x : Rat × Rat × List D => (x.1, x.2.1)) hmem)
    rw [hst] at hb
    refine ⟨_, eg_tup (egs_cons eg_name (egs_cons eg_name egs_nil)), s_seq (s_set (ed_call (ea_cons (ed_var rfl) (ea_cons (ed_var rfl) ea_nil)) (ph_meeting_moment zp.1 zp.2 zq.1 zq.2 zm)) ?_)⟩
    generalize hmm : meeting p.1 p.2.1 q.1 q.2.1 = mm at *
    cases mm with
    | none => exact s_ifF (et_andF (et_test (ed_op (ed_var rfl) ed_c rd_notN)) rfl) rfl (s_next ⟨best, _, _, _, _, rfl, rfl, hb, hbz⟩)
    | some t =>
      cases best with
      | none => exact s_ifT (et_andT (et_test (ed_op (ed_var rfl) ed_c rd_notN)) rfl (et_orT (et_test (ed_op (ed_var rfl) ed_c rd_isN)) rfl)) rfl (s_set (ed_var rfl) ⟨some t, _, _, _, _, rfl, rfl, hb, zm⟩)
      | some b =>
        refine s_if (et_andT (et_test (ed_op (ed_var rfl) ed_c rd_notN)) rfl (et_orF (et_test (ed_op (ed_var rfl) ed_c rd_isN)) rfl (et_B (ed_call (ea_cons (ed_var rfl) (ea_cons (ed_var rfl) ea_nil)) (ph_less (zm t rfl).up (hbz b rfl).up))))) (fun z => s_set (ed_var rfl) ⟨some t, _, _, _, _, rfl, rfl, ?_, zm⟩) (fun z => s_next ⟨some b, _, _, _, _, rfl, rfl, ?_, hbz⟩)
        · have e : better (some b) (some t) = some t := if_pos (of_decide_eq_true z)
          rw [e] at hb; exact hb
        · have e : better (some b) (some t) = some b := if_neg (of_decide_eq_false z)
          rw [e] at hb; exact hb
  · rintro env' S' ⟨best, o3, o5, o6, o7, rfl, rfl, hb, hbz⟩
    rw [leastOf_short _ _ (by simp; omega)] at hb
    rw [← hb] at hR
    exact s_ret0 (ed_var rfl) hR
theorem ok_rising {f : Addr} {fd : FuncData}  (F : Fun K "rising" "rising" s_rising f fd) (T : Txt K mg A)  (c_less : Cal P w K mg base 1 "less" Ph_less [])  : FnOk P w K mg base CX0 2 f fd ["ratios"] (spD K (Ph_rising)) := by
  refine okD F sc_rising (fun ds S R Xs h => by (repeat (first | (obtain ⟨rfl, _⟩ := h; rfl) | (obtain ⟨_, h⟩ := h)))) (fun cdv AA outer s H E hr ds S R Xs h => ?_)
  obtain ⟨v, l, rfl, rfl, hl, hz, hR⟩ := h
  refine ⟨_, (pss_cons (ps_set (i := 1) sc_rising.nd rfl (Or.inl rfl) (pe_lst pa_nil))
  (pss_cons (ps_for PassesOwn.never rfl (pi_list (pv 0)) (pg_name (i := 2) sc_rising.nd rfl (Or.inl rfl)) (pss_cons (ps_set (i := 3) sc_rising.nd rfl (Or.inl rfl) pe_int)
  (pss_cons (ps_while PassesOwn.never (PW.pt (pw_and (pt_cmpR op_lt (pv 3) (pe_callB (k_len K) rfl T.b_len PySem.boot_len (pa_cons (pv 1) pa_nil)) (nomark _)) (pw_and1 (pt_val (pc c_less (hr.mono (by decide)) rfl (pa_cons (pe_ix (k_ixL K) (pv 1) (pv 3) (fun _ _ => rfl)) (pa_cons (pv 2) pa_nil))))))) (pss_one (ps_set (i := 3) sc_rising.nd rfl (Or.inl rfl) (pe_op op_add (pv 3) pe_int))))
  (pss_one (ps_expr (pe_bm PySem.F.plainAttrs_list PySem.F.slot_list_insert PySem.F.type_list_insert mt_insert (pv 1) (pa_cons (pv 3) (pa_cons (pv 2) pa_nil))))))))
  (pss_one (ps_ret (pv 1))))), ?_⟩
  try dsimp only [cxOf]
  refine s_seq (s_setL (el_lst ea_nil) fun x => s_seq (s_for (ei_lst (ed_var rfl) (lst_of (k := 1) rfl) ⟨fun i env S => ∃ o2 o3, i ≤ l.length ∧ env = [some (.v v), some (.v x), o2, o3] ∧ S = [(x, .l ((rising (l.take i)).map dR)), (v, .l (l.map dR))], ⟨none, none, Nat.zero_le _, rfl, rfl⟩, ?_, ?_, ?_⟩)))
  · rintro i env' S' _ ⟨o2, o3, _, rfl, rfl⟩
    exact lst_of (k := 1) rfl
  · rintro i d env' S' hd ⟨o2, o3, hi, rfl, rfl⟩
    rw [List.getElem?_map] at hd
    obtain ⟨q, hq, rfl⟩ := Option.map_eq_some_iff.mp hd
    have hil := (List.getElem?_eq_some_iff.mp hq).1
    have tk : l.take (i + 1) = l.take i ++ [q] := by rw [List.take_succ, hq]; rfl
    have zq := hz q (List.mem_of_getElem? hq)
    have al : (rising (l.take i)).length = i := by rw [rising_len, List.length_take]; omega
    have za : ∀ a ∈ rising (l.take i), Sz SB a := fun a ha => hz a (List.mem_of_mem_take ((rising_mem _ _).mp ha))
    have hsn : rising (l.take (i + 1)) = insertR q (rising (l.take i)) := by rw [tk, rising_snoc]
    generalize rising (l.take i) = acc at *
    refine ⟨_, eg_name, s_seq (s_set ed_c (s_seq ?_))⟩
    refine s_while (I := fun m env S => ∃ k : Nat, k ≤ acc.length ∧ m = acc.length - k ∧ env = [some (.v v), some (.v x), some (dR q), some (dI (k : Int))] ∧ S = [(x, .l (acc.map dR)), (v, .l (l.map dR))] ∧ insertR q acc = acc.take k ++ insertR q (acc.drop k)) (m := acc.length) ⟨0, Nat.zero_le _, rfl, rfl, rfl, rfl⟩ ?_
    rintro m env S ⟨k, hk, rfl, rfl, rfl, hins⟩
    have fin : (∀ x, acc[k]? = some x → ¬ x < q) → insertR q acc = acc.take k ++ [q] ++ acc.drop k := insertR_stop hins
    by_cases hkl : k < acc.length
    · obtain ⟨a, ha⟩ : ∃ a, acc[k]? = some a := ⟨_, List.getElem?_eq_getElem hkl⟩
      have zaa := za a (List.mem_of_getElem? ha)
      have hdec : decide ((k : Int) < ((acc.map dR).length : Int)) = true := by simp; exact hkl
      have hix : atI (acc.map dR) (k : Int) = some (dR a) := by rw [atI_at (by simp; exact hkl), List.getElem?_map, ha]; rfl
      refine evt_t (et_andT (et_test (ed_op (ed_var rfl) (ed_lenL (ed_var rfl) (lst_of (k := 0) rfl)) rd_I0)) hdec (et_B (ed_call (ea_cons (ed_ixL (ed_var rfl) (lst_of (k := 0) rfl) (ed_var rfl) hix) (ea_cons (ed_var rfl) ea_nil)) (ph_less zaa.up zq.up)))) ?_
      by_cases haq : a < q
      · rw [if_pos (decide_eq_true haq)]
        exact s_set (ed_op (ed_var rfl) ed_c rd_I0) ⟨_, by omega, k + 1, by omega, rfl, rfl, rfl, insertR_go hins ha haq⟩
      · rw [if_neg (by simp [haq])]
        have e := fin fun x hx => by rw [ha] at hx; cases hx; exact haq
        refine s_dropE (ev_ins (ed_var rfl) (k := 0) (i := k) rfl (ed_var rfl) (ed_var rfl) (by rw [List.length_map]; omega) (by omega) ⟨_, _, by omega, rfl, ?_⟩)
        rw [hsn, e]; simp [List.map_take, List.map_drop]
    · have hdec : decide ((k : Int) < ((acc.map dR).length : Int)) = false := by simp; omega
      refine evt_t (et_andF (et_test (ed_op (ed_var rfl) (ed_lenL (ed_var rfl) (lst_of (k := 0) rfl)) rd_I0)) hdec) ?_
      rw [if_neg (by simp)]
      have e := fin fun x hx => absurd (List.getElem?_eq_some_iff.mp hx).1 hkl
      refine s_dropE (ev_ins (ed_var rfl) (k := 0) (i := k) rfl (ed_var rfl) (ed_var rfl) (by rw [List.length_map]; omega) (by omega) ⟨_, _, by omega, rfl, ?_⟩)
      rw [hsn, e]; simp [List.map_take, List.map_drop]
  · rintro env' S' ⟨o2, o3, _, rfl, rfl⟩
    rw [List.length_map, List.take_length]
    exact s_retK (F := []) (ed_var rfl) rfl (hR _)
theorem ok_two_speeds {f : Addr} {fd : FuncData}  (F : Fun K "two_speeds" "two_speeds" s_two_speeds f fd) (T : Txt K mg A)  (c_minus : Cal P w K mg base 3 "minus" Ph_minus []) (c_over : Cal P w K mg base 3 "over" Ph_over []) (c_plus : Cal P w K mg base 3 "plus" Ph_plus []) (c_ratio_1 : Cal P w K mg base 2 "ratio" Ph_ratio [V.int 1]) (c_times : Cal P w K mg base 3 "times" Ph_times [])  : FnOk P w K mg base CX0 4 f fd ["left", "right"] (spD K (Ph_two_speeds)) := by
  refine okD F sc_two_speeds (fun ds S R Xs h => by (repeat (first | (obtain ⟨rfl, _⟩ := h; rfl) | (obtain ⟨_, h⟩ := h)))) (fun cdv AA outer s H E hr ds S R Xs h => ?_)
  obtain ⟨⟨pa, va, ma⟩, ⟨pb, vb, mb⟩, rfl, rfl, hva, hvb, ⟨hma, hma'⟩, ⟨hmb, hmb'⟩, hq, hR⟩ := h
  dsimp only at hma hma' hmb hmb' hva hvb
  refine ⟨_, (pss_cons (ps_set (i := 2) sc_two_speeds.nd rfl (Or.inl rfl) (pc c_ratio_1 (hr.mono (by decide)) rfl (pa_cons (pe_op op_add (pe_ix (k_ixT K) (pv 0) (C8.pe_gc rfl T.g_WEIGHT) (fun _ _ => rfl)) (pe_ix (k_ixT K) (pv 1) (C8.pe_gc rfl T.g_WEIGHT) (fun _ _ => rfl))) pa_nil)))
  (pss_cons (ps_set (i := 3) sc_two_speeds.nd rfl (Or.inl rfl) (pc c_minus (hr.mono (by decide)) rfl (pa_cons (pe_ix (k_ixT K) (pv 0) (C8.pe_gc rfl T.g_SPEED) (fun _ _ => rfl)) (pa_cons (pe_ix (k_ixT K) (pv 1) (C8.pe_gc rfl T.g_SPEED) (fun _ _ => rfl)) pa_nil))))
  (pss_cons (ps_set (i := 4) sc_two_speeds.nd rfl (Or.inl rfl) (pc c_over (hr.mono (by decide)) rfl (pa_cons (pc c_times (hr.mono (by decide)) rfl (pa_cons (pc c_ratio_1 (hr.mono (by decide)) rfl (pa_cons (pe_op op_mulW pe_int (pe_ix (k_ixT K) (pv 1) (C8.pe_gc rfl T.g_WEIGHT) (fun _ _ => rfl))) pa_nil)) (pa_cons (pv 3) pa_nil))) (pa_cons (pv 2) pa_nil))))
  (pss_cons (ps_set (i := 5) sc_two_speeds.nd rfl (Or.inl rfl) (pc c_over (hr.mono (by decide)) rfl (pa_cons (pc c_times (hr.mono (by decide)) rfl (pa_cons (pc c_ratio_1 (hr.mono (by decide)) rfl (pa_cons (pe_op op_mulW pe_int (pe_ix (k_ixT K) (pv 0) (C8.pe_gc rfl T.g_WEIGHT) (fun _ _ => rfl))) pa_nil)) (pa_cons (pv 3) pa_nil))) (pa_cons (pv 2) pa_nil))))
  (pss_one (ps_ret (pe_lst (pa_cons (pc c_minus (hr.mono (by decide)) rfl (pa_cons (pe_ix (k_ixT K) (pv 0) (C8.pe_gc rfl T.g_SPEED) (fun _ _ => rfl)) (pa_cons (pv 4) pa_nil))) (pa_cons (pc c_plus (hr.mono (by decide)) rfl (pa_cons (pe_ix (k_ixT K) (pv 1) (C8.pe_gc rfl T.g_SPEED) (fun _ _ => rfl)) (pa_cons (pv 5) pa_nil))) pa_nil))))))))), ?_⟩
  try dsimp only [cxOf]
  have e1 : twoSpeeds ⟨pa, va, ma⟩ ⟨pb, vb, mb⟩ = [va - ((2 * mb : Int) : Rat) * (va - vb) / ((ma + mb : Int) : Rat), vb + ((2 * ma : Int) : Rat) * (va - vb) / ((ma + mb : Int) : Rat)] := by
    unfold twoSpeeds backOf
    simp only [Rat.intCast_mul, Rat.intCast_add]
    rw [Rat.add_comm (mb : Rat) (ma : Rat)]; rfl
  rw [e1] at hq hR
  have z0 : ((ma + mb : Int) : Rat) ≠ 0 := by
    intro z
    have : ma + mb = 0 := by exact_mod_cast z
    omega
  have s0 : Sz 12 ((ma + mb : Int) : Rat) := sz_small (by omega) (by omega)
  have sa : Sz 12 ((2 * ma : Int) : Rat) := sz_small (by omega) (by omega)
  have sb : Sz 12 ((2 * mb : Int) : Rat) := sz_small (by omega) (by omega)
  have sc := Sz.sub hva hvb
  have s1 := Sz.mul sb sc (by decide)
  have s2 := Sz.mul sa sc (by decide)
  have s3 := Sz.div s1 s0 (by decide)
  have s4 := Sz.div s2 s0 (by decide)
  have q1 := hq _ (List.mem_cons_self ..)
  have q2 := hq _ (List.mem_cons_of_mem _ (List.mem_cons_self ..))
  have w2 : ∀ m : Int, 1 ≤ m → m ≤ 1000 → CMulW 2 m := fun m h1 h2 => wide_mul (a := 12) (b := 12) (by decide) (by omega) (by decide) (by decide) (by decide)
  have BBe : BB = 4400 := rfl
  have SBe : SB = 2100 := rfl
  refine s_seq (s_set (d := dR ((ma + mb : Int) : Rat)) (ed_callP (es := [D.v (V.int 1)]) (ea_cons (ed_op (ed_op (ed_var rfl) ed_c rd_ix2) (ed_op (ed_var rfl) ed_c rd_ix2) rd_I0) ea_nil) (fun _ => .cons .v .nil) (ph_ratio1 rfl (s0.mono (by decide)))) ?_)
  refine s_seq (s_set (ed_call (ea_cons (ed_op (ed_var rfl) ed_c rd_ix1) (ea_cons (ed_op (ed_var rfl) ed_c rd_ix1) ea_nil)) (ph_minus hva.up hvb.up (sc.mono (by decide)))) ?_)
  refine s_seq (s_set (ed_call (ea_cons (ed_call (ea_cons (ed_callP (es := [D.v (V.int 1)]) (d := dR ((2 * mb : Int) : Rat)) (ea_cons (ed_op ed_c (ed_op (ed_var rfl) ed_c rd_ix2) (rd_I (w2 mb hmb hmb'))) ea_nil) (fun _ => .cons .v .nil) (ph_ratio1 rfl (sb.mono (by decide)))) (ea_cons (ed_var rfl) ea_nil)) (ph_times (sb.mono (by decide)) (sc.mono (by decide)) (s1.mono (by decide)))) (ea_cons (ed_var rfl) ea_nil)) (ph_over z0 (s1.mono (by decide)) (s0.mono (by decide)) (s3.mono (by decide)))) ?_)
  refine s_seq (s_set (ed_call (ea_cons (ed_call (ea_cons (ed_callP (es := [D.v (V.int 1)]) (d := dR ((2 * ma : Int) : Rat)) (ea_cons (ed_op ed_c (ed_op (ed_var rfl) ed_c rd_ix2) (rd_I (w2 ma hma hma'))) ea_nil) (fun _ => .cons .v .nil) (ph_ratio1 rfl (sa.mono (by decide)))) (ea_cons (ed_var rfl) ea_nil)) (ph_times (sa.mono (by decide)) (sc.mono (by decide)) (s2.mono (by decide)))) (ea_cons (ed_var rfl) ea_nil)) (ph_over z0 (s2.mono (by decide)) (s0.mono (by decide)) (s4.mono (by decide)))) ?_)
  exact s_retL (el_lst (ea_cons (ed_call (ea_cons (ed_op (ed_var rfl) ed_c rd_ix1) (ea_cons (ed_var rfl) ea_nil)) (ph_minus hva.up (s3.mono (by decide)) q1.up)) (ea_cons (ed_call (ea_cons (ed_op (ed_var rfl) ed_c rd_ix1) (ea_cons (ed_var rfl) ea_nil)) (ph_plus hvb.up (s4.mono (by decide)) q2.up)) ea_nil)) (by simp)) hR
end
end PG
namespace PG
open PySem L2 RZ DL
section
variable {P : Program} {w : World} {K : PySem.W.Frag} {mg : Str → Option Value} {base : Heap} {A : Adr}
theorem ok_groups_at {f : Addr} {fd : FuncData}  (F : Fun K "groups_at" "groups_at" s_groups_at f fd) (T : Txt K mg A)  (c_comes_to : Cal P w K mg base 2 "comes_to" Ph_comes_to []) (c_wall_there : Cal P w K mg base 1 "wall_there" Ph_wall_there [])  : FnOk P w K mg base CX0 3 f fd ["row", "walls"] (spD K (Ph_groups_at)) := by
  refine okD F sc_groups_at (fun ds S R Xs h => by (repeat (first | (obtain ⟨rfl, _⟩ := h; rfl) | (obtain ⟨_, h⟩ := h)))) (fun cdv AA outer s H E hr ds S R Xs h => ?_)
  obtain ⟨r, w, rfl, rfl, ⟨hl, hz⟩, hw, hR⟩ := h
  refine ⟨_, (pss_cons (ps_set (i := 2) sc_groups_at.nd rfl (Or.inl rfl) (pe_lst pa_nil))
  (pss_cons (ps_set (i := 3) sc_groups_at.nd rfl (Or.inl rfl) pe_int)
  (pss_cons (ps_for PassesOwn.never rfl (pi_enumA rfl T.b_enumerate (pa_cons (pv 0) pa_nil)) (k_gtup K 2 rfl (pgs_cons (pg_name (i := 4) sc_groups_at.nd rfl (Or.inl rfl)) (pgs_cons (pg_name (i := 5) sc_groups_at.nd rfl (Or.inl rfl)) pgs_nil))) (pss_one (ps_if (PW.pt (pw_or (pt_cmpR op_eq (pe_op op_add (pv 4) pe_int) (pe_callB (k_len K) rfl T.b_len PySem.boot_len (pa_cons (pv 0) pa_nil)) (nomark _)) (pw_or1 (pt_cmpR (k_neD K hr.units) (pe_ix (k_ixT K) (pe_ix (k_ixT K) (pv 0) (pe_op op_add (pv 4) pe_int) (fun _ _ => rfl)) (C8.pe_gc rfl T.g_PLACE) (fun _ _ => rfl)) (pe_ix (k_ixT K) (pv 5) (C8.pe_gc rfl T.g_PLACE) (fun _ _ => rfl)) (nomark _))))) (pss_cons (ps_set (i := 6) sc_groups_at.nd rfl (Or.inl rfl) (pc c_wall_there (hr.mono (by decide)) rfl (pa_cons (pv 1) (pa_cons (pe_ix (k_ixT K) (pv 5) (C8.pe_gc rfl T.g_PLACE) (fun _ _ => rfl)) pa_nil))))
  (pss_cons (ps_if (PW.pt (pw_or (pt_cmpR op_gt (pv 4) (pv 3) (nomark _)) (pw_or1 (pt_val (pc c_comes_to (hr.mono (by decide)) rfl (pa_cons (pv 5) (pa_cons (pv 1) (pa_cons (pv 6) pa_nil)))))))) (pss_one (ps_expr (pe_bm PySem.F.plainAttrs_list PySem.F.slot_list_append PySem.F.type_list_append mt_append (pv 2) (pa_cons (pe_tup (pa_cons (pv 3) (pa_cons (pv 4) (pa_cons (pv 6) pa_nil)))) pa_nil)))) pss_nil)
  (pss_one (ps_set (i := 3) sc_groups_at.nd rfl (Or.inl rfl) (pe_op op_add (pv 4) pe_int))))) pss_nil)))
  (pss_one (ps_ret (pv 2)))))), ?_⟩
  try dsimp only [cxOf]
  have dl : (r.map dBall).length = r.length := List.length_map ..
  refine s_seq (s_setL (el_lst ea_nil) fun x => s_seq (s_set ed_c (s_seq (s_for (ei_enumAT (ds := r.map dBall) (ea_cons (ed_var rfl) ea_nil) ⟨fun i env S => ∃ (first : Nat) (acc : List Group) (o4 o5 o6 : Option D), i ≤ r.length ∧ first ≤ i ∧ env = [some (dRow r), some (dWls w), some (.v x), some (dI (first : Int)), o4, o5, o6] ∧ S = [(x, .l (acc.map dGroup))] ∧ acc.length ≤ i ∧ acc ++ groupsFrom w (r.drop i) i first = groupsAt r w, ⟨0, [], none, none, none, Nat.zero_le _, Nat.le_refl _, rfl, rfl, Nat.le_refl _, rfl⟩, fun _ _ _ _ _ => trivial, ?_, ?_⟩)))))
  · rintro i d env' S' hd ⟨first, acc, o4, o5, o6, hi, hf, rfl, rfl, ha, hg⟩
    have hil : i < r.length := by
      have := (List.getElem?_eq_some_iff.mp hd).1
      rw [enumD_len, dl] at this; exact this
    obtain ⟨b, hb⟩ : ∃ b, r[i]? = some b := ⟨_, List.getElem?_eq_getElem hil⟩
    have hd' := enumD_get (ds := r.map dBall) (i := i) (x := dBall b) (by rw [List.getElem?_map, hb]; rfl)
    rw [hd] at hd'
    cases hd'
    have zb := hz b (List.mem_of_getElem? hb)
    obtain ⟨pl, eb⟩ := List.getElem?_eq_some_iff.mp hb
    have dr : r.drop i = b :: r.drop (i + 1) := by rw [List.drop_eq_getElem_cons pl, eb]
    rw [dr, groupsFrom_cons] at hg
    refine ⟨_, eg_tup (egs_cons eg_name (egs_cons eg_name egs_nil)), s_if (b := lastOf b (r.drop (i + 1))) ?_ (fun z => ?_) (fun z => s_next ?_)⟩
    · cases e : r.drop (i + 1) with
      | nil =>
        have hlen : r.length ≤ i + 1 := List.drop_eq_nil_iff.mp e
        exact et_is (et_orT (et_test (ed_op (ed_op (ed_var rfl) ed_c rd_I0) (ed_lenT (ed_var rfl)) (rd_eq rfl))) (decide_eq_true (by rw [dl]; congr 1; omega))) rfl
      | cons c rest =>
        have hlt : i + 1 < r.length := Nat.lt_of_not_le fun q => by rw [List.drop_eq_nil_of_le q] at e; cases e
        have hc : r[i + 1]? = some c := by
          rw [List.drop_eq_getElem_cons hlt] at e
          rw [List.getElem?_eq_getElem hlt]; exact congrArg some (List.cons.inj e).1
        have hix : atI (r.map dBall) ((i : Int) + 1) = some (dBall c) := by
          have := atI_at (xs := r.map dBall) (j := i + 1) (by rw [dl]; exact hlt)
          rw [List.getElem?_map, hc] at this; exact this
        exact et_is (et_orF (et_test (ed_op (ed_op (ed_var rfl) ed_c rd_I0) (ed_lenT (ed_var rfl)) (rd_eq rfl))) (decide_eq_false (by rw [dl]; intro q; injection q with q; omega)) (et_test (ed_op (ed_op (ed_op (ed_var rfl) (ed_op (ed_var rfl) ed_c rd_I0) (rd_ixT hix)) ed_c rd_ix0) (ed_op (ed_var rfl) ed_c rd_ix0) rd_neR))) rfl
    · rw [if_pos z] at hg
      have hdec : decide (first < i) = decide ((first : Int) < (i : Int)) := decide_eq_decide.mpr (by omega)
      rw [hdec] at hg
      refine s_seq (s_set (ed_call (ea_cons (ed_var rfl) (ea_cons (ed_op (ed_var rfl) ed_c rd_ix0) ea_nil)) ph_wall_there) (s_seq (s_if (et_or (et_test (ed_op (ed_var rfl) (ed_var rfl) rd_I0)) fun _ => et_B (ed_call (ea_cons (ed_var rfl) (ea_cons (ed_var rfl) (ea_cons (ed_var rfl) ea_nil))) (ph_comes_to zb hw wallThere_low wallThere_high))) (fun y => ?_) (fun y => s_next ?_))))
      · rw [if_pos y] at hg
        refine s_app (ed_var rfl) (k := 0) rfl (ed_tup (ea_cons (ed_var rfl) (ea_cons (ed_var rfl) (ea_cons (ed_var rfl) ea_nil)))) (by rw [List.length_map]; omega) (s_set (ed_op (ed_var rfl) ed_c rd_I0) ?_)
        exact ⟨i + 1, acc ++ [⟨first, i, wallThere w b.p⟩], _, _, _, hil, Nat.le_refl _, rfl, by rw [List.map_append]; rfl, by simp; omega, by rw [List.append_assoc]; exact hg⟩
      · rw [if_neg (by rw [y]; exact Bool.false_ne_true)] at hg
        exact s_set (ed_op (ed_var rfl) ed_c rd_I0) ⟨i + 1, acc, _, _, _, hil, Nat.le_refl _, rfl, rfl, by omega, hg⟩
    · rw [if_neg (by rw [z]; exact Bool.false_ne_true)] at hg
      exact ⟨first, acc, _, _, _, hil, by omega, rfl, rfl, by omega, hg⟩
  · rintro env' S' ⟨first, acc, o4, o5, o6, hi, hf, rfl, rfl, ha, hg⟩
    rw [enumD_len, dl, List.drop_length] at hg
    have hg : acc ++ [] = groupsAt r w := hg
    rw [List.append_nil] at hg
    subst hg
    exact s_retK (F := []) (ed_var rfl) rfl (hR _)
end
end PG
namespace PG
open PySem L2 RZ DL
section
variable {P : Program} {w : World} {K : PySem.W.Frag} {mg : Str → Option Value} {base : Heap} {A : Adr}
theorem ok_together_speeds {f : Addr} {fd : FuncData}  (F : Fun K "together_speeds" "together_speeds" s_together_speeds f fd) (T : Txt K mg A)  (c_minus : Cal P w K mg base 3 "minus" Ph_minus []) (c_rising : Cal P w K mg base 2 "rising" Ph_rising []) (c_times : Cal P w K mg base 3 "times" Ph_times []) (c_two_speeds : Cal P w K mg base 4 "two_speeds" Ph_two_speeds [])  : FnOk P w K mg base CX0 5 f fd ["balls", "wall", "moment"] (spD K (Ph_together_speeds)) := by
  refine okD F sc_together_speeds (fun ds S R Xs h => by (repeat (first | (obtain ⟨rfl, _⟩ := h; rfl) | (obtain ⟨_, h⟩ := h)))) (fun cdv AA outer s H E hr ds S R Xs h => ?_)
  obtain ⟨x, bs, w, t, qs, rfl, rfl, ⟨hl, hz⟩, hw, hwl, hd, hq, hR⟩ := h
  refine ⟨_, (pss_cons (ps_if (PW.pt (pw_and (pt_cmpR op_eq (pe_callB (k_len K) rfl T.b_len PySem.boot_len (pa_cons (pv 0) pa_nil)) pe_int (nomark _)) (pw_and1 (pt_cmpR op_isN (pv 1) pe_non (nomark _))))) (pss_one (ps_ret (pc c_two_speeds (hr.mono (by decide)) rfl (pa_cons (pe_ix (k_ixL K) (pv 0) pe_int (fun _ _ => rfl)) (pa_cons (pe_ix (k_ixL K) (pv 0) pe_int (fun _ _ => rfl)) pa_nil))))) pss_nil)
  (pss_cons (ps_if (PW.pt (pw_and (pt_cmpR op_gt (pe_callB (k_len K) rfl T.b_len PySem.boot_len (pa_cons (pv 0) pa_nil)) pe_int (nomark _)) (pw_and1 (pt_val (pe_callB (k_any K rfl) rfl T.b_any PyProof.Rows.boot_any (pa_cons (pe_lc (own := [("ball", 3)]) rfl sc_together_speeds.nd (pi_list (pv 0)) (blkOk_by (own := [("ball", 3)]) (N := N_together_speeds) (sc := defScope s_together_speeds) (by decide +kernel)) (by exact fun _ _ _ _ _ => (pg_name (i := 3) sc_together_speeds.nd rfl (Or.inl rfl))) (by exact fun _ _ _ _ _ => pts_nil) (by exact fun _ _ _ _ _ => (pe_cmpR op_ne (pe_ix (k_ixT K) (pv 3) (C8.pe_gc rfl T.g_WEIGHT) (fun _ _ => rfl)) (pe_ix (k_ixT K) (pe_ix (k_ixL K) (pv 0) pe_int (fun _ _ => rfl)) (C8.pe_gc rfl T.g_WEIGHT) (fun _ _ => rfl)) (nomark _)))) pa_nil)))))) (pss_one ps_never) pss_nil)
  (pss_cons (ps_setLc (i := 4) (own := [("ball", 3)]) rfl sc_together_speeds.nd rfl rfl (sw_true rfl rfl rfl (by decide +kernel)) (pi_list (pv 0)) (blkOk_by (own := [("ball", 3)]) (N := N_together_speeds) (sc := defScope s_together_speeds) (by decide +kernel)) (by exact fun _ _ _ _ _ => (pg_name (i := 3) sc_together_speeds.nd rfl (Or.inl rfl))) (by exact fun _ _ _ _ _ => pts_nil) (by exact fun _ _ _ _ _ => (pe_ix (k_ixT K) (pv 3) (C8.pe_gc rfl T.g_SPEED) (fun _ _ => rfl))))
  (pss_cons (ps_if (pt_cmpR op_notN (pv 1) pe_non (nomark _)) (pss_one (ps_setLc (i := 4) (own := [("speed", 5)]) rfl sc_together_speeds.nd rfl rfl (sw_true rfl rfl rfl (by decide +kernel)) (pi_list (pv 4)) (blkOk_by (own := [("speed", 5)]) (N := N_together_speeds) (sc := defScope s_together_speeds) (by decide +kernel)) (by exact fun _ _ _ _ _ => (pg_name (i := 5) sc_together_speeds.nd rfl (Or.inl rfl))) (by exact fun _ _ _ _ _ => pts_nil) (by exact fun _ _ _ _ _ => (pc c_minus (hr.mono (by decide)) rfl (pa_cons (pc c_times (hr.mono (by decide)) rfl (pa_cons (pe_tup (pa_cons pe_int (pa_cons pe_int pa_nil))) (pa_cons (pe_ix (k_ixT K) (pv 1) (C8.pe_gc rfl T.g_SPEED) (fun _ _ => rfl)) pa_nil))) (pa_cons (pv 5) pa_nil)))))) pss_nil)
  (pss_one (ps_ret (pc c_rising (hr.mono (by decide)) rfl (pa_cons (pv 4) pa_nil)))))))), ?_⟩
  try dsimp only [cxOf]
  have dl : (bs.map dBall).length = bs.length := List.length_map ..
  have BBe : BB = 4400 := rfl
  have SBe : SB = 2100 := rfl
  by_cases h2 : bs.length = 2 ∧ w = none
  · obtain ⟨h2, rfl⟩ := h2
    match bs, h2 with
    | [a, b], _ =>
      rw [dealt_two] at hd
      cases hd
      refine s_seq (s_ifT (et_andT (et_test (ed_op (ed_lenL (ed_var rfl) (lst_of (k := 0) rfl)) ed_c (rd_eq rfl))) (decide_eq_true rfl) (et_test (ed_op (ed_var rfl) ed_c rd_isN))) rfl (s_retE (ev_call0 (eva_d (ea_cons (ed_ixL (ed_var rfl) (lst_of (k := 0) rfl) ed_c rfl) (ea_cons (ed_ixL (ed_var rfl) (lst_of (k := 0) rfl) ed_c rfl) ea_nil)) ⟨[], _, rfl, a, b, rfl, rfl, (hz a (by simp)).2, (hz b (by simp)).2, hw a (by simp), hw b (by simp), hq, fun y => hR y⟩))))
  · rw [dealt_else h2] at hd
    have hu : unlike bs = false := by
      cases e : unlike bs with
      | false => rfl
      | true => rw [e] at hd; cases hd
    rw [hu, if_neg Bool.false_ne_true] at hd
    have hu' : (decide ((1 : Int) < ((bs.map dBall).length : Int)) && bs.any fun b => !decide (b.w = (bs.headD ⟨0, 0, 0⟩).w)) = false := by
      rw [dl, show decide ((1 : Int) < (bs.length : Int)) = decide (1 < bs.length) from decide_eq_decide.mpr (by omega)]; exact hu
    refine s_seq (s_ifF (et_is (et_and (et_test (ed_op (ed_lenL (ed_var rfl) (lst_of (k := 0) rfl)) ed_c (rd_eq rfl))) fun _ => et_test (ed_op (ed_var rfl) ed_c rd_isN)) ?_) rfl (s_next (s_seq (s_ifF (et_and (et_test (ed_op (ed_lenL (ed_var rfl) (lst_of (k := 0) rfl)) ed_c rd_I0)) fun z => et_B ?_) hu' (s_next ?_)))))
    · rw [Bool.and_eq_false_iff]
      by_cases q : bs.length = 2
      · refine .inr ?_
        cases w with
        | none => exact absurd ⟨q, rfl⟩ h2
        | some w => rfl
      · exact .inl (decide_eq_false (by rw [dl]; intro z; injection z with z; omega))
    · have hlen : 1 < bs.length := by
        have := of_decide_eq_true z
        rw [dl] at this; omega
      obtain ⟨b0, rest, e⟩ : ∃ b0 rest, bs = b0 :: rest := by
        cases bs with
        | nil => simp at hlen
        | cons b0 rest => exact ⟨b0, rest, rfl⟩
      have e0 : (bs.headD ⟨0, 0, 0⟩) = b0 := by rw [e]; rfl
      have ea : (bs.any fun b => !decide (b.w = (bs.headD ⟨0, 0, 0⟩).w)) = (bs.map fun b => !decide (V.int b.w = V.int b0.w)).any id := by
        rw [e0, List.any_map]
        congr 1
        funext b
        show _ = !decide (V.int b.w = V.int b0.w)
        congr 1
        exact decide_eq_decide.mpr ⟨fun h => by rw [h], fun h => by injection h⟩
      rw [ea]
      refine ed_anyN (el_is (el_mapT (l := bs) (da := dBall) (f := fun b => .v (.bl (!decide (V.int b.w = V.int b0.w)))) (ip_lst (ed_var rfl) (lst_of (k := 0) rfl)) (by omega) fun b hb => ⟨_, egc_name, ed_op (ed_op (ed_var rfl) ed_c rd_ix2) (ed_op (ed_ixL (d := dBall b0) (ed_var rfl) (lst_of (k := 0) rfl) ed_c (by rw [e]; exact atI_at (xs := (b0 :: rest).map dBall) (j := 0) (by simp))) ed_c rd_ix2) (rd_ne rfl)⟩) (by rw [List.map_map]; rfl))
    · refine s_seq (s_setL (el_mapT (l := bs) (da := dBall) (f := fun b => dR b.v) (ip_lst (ed_var rfl) (lst_of (k := 0) rfl)) (by omega) fun b hb => ⟨_, egc_name, ed_op (ed_var rfl) ed_c rd_ix1⟩) fun y => s_seq ?_)
      have em : (bs.map fun b => dR b.v) = (bs.map (·.v)).map dR := by rw [List.map_map]; rfl
      have zv : ∀ q ∈ bs.map (·.v), Sz SB q := fun q hq => by
        obtain ⟨b, hb, rfl⟩ := List.mem_map.mp hq
        exact (hz b hb).2
      cases w with
      | none =>
        cases hd
        refine s_ifF (et_test (ed_op (ed_var rfl) ed_c rd_notN)) rfl (s_next (s_retE (ev_call0 (eva_d (ea_cons (ed_var rfl) ea_nil) ⟨[_], _, rfl, y, spIn bs none, rfl, by rw [em]; rfl, by simp [spIn]; omega, zv, fun u => hR u⟩))))
      | some w =>
        have hw2 := (hwl w rfl).2
        have zz : ∀ q, Sz SB q → Sz BB (2 * w.2 - q) := fun q h => (Sz.sub (Sz.mul sz_two hw2 (by decide)) h).mono (by decide)
        cases hd
        refine s_ifT (et_test (ed_op (ed_var rfl) ed_c rd_notN)) rfl (s_setL (el_mapT (l := bs.map (·.v)) (da := dR) (f := fun q => dR (2 * w.2 - q)) (by rw [← em]; exact ip_lst (ed_var rfl) (lst_of (k := 0) rfl)) (by simp; omega) fun q hq => ⟨_, egc_name, ed_call (ea_cons (ed_call (ea_cons (ed_is (ed_tup (ea_cons ed_c (ea_cons ed_c ea_nil))) two_num.symm) (ea_cons (ed_op (ed_var rfl) ed_c rd_ix1) ea_nil)) (ph_times (sz_two.mono (by decide)) hw2.up ((Sz.mul sz_two hw2 (by decide)).mono (by decide)))) (ea_cons (ed_var rfl) ea_nil)) (ph_minus ((Sz.mul sz_two hw2 (by decide)).mono (by decide)) (zv q hq).up (zz q (zv q hq)))⟩) fun u => s_perm (List.Perm.swap _ _ _) (s_drop1 (s_retE (ev_call0 (eva_d (ea_cons (ed_var rfl) ea_nil) ⟨[_], _, rfl, u, spIn bs (some w), rfl, by unfold spIn; rw [List.map_map, List.map_map]; rfl, by simp [spIn]; omega, ?_, fun u => hR u⟩)))))
        exact fun q hq' => hq q ((rising_mem _ _).mpr hq')
theorem ok_rebounded {f : Addr} {fd : FuncData}  (F : Fun K "rebounded" "rebounded" s_rebounded f fd) (T : Txt K mg A)  (c_together_speeds : Cal P w K mg base 5 "together_speeds" Ph_together_speeds []) (c_wall_named : Cal P w K mg base 1 "wall_named" Ph_wall_named [])  : FnOk P w K mg base CX0 6 f fd ["row", "walls", "groups", "moment"] (spD K (Ph_rebounded)) := by
  refine okD F sc_rebounded (fun ds S R Xs h => by (repeat (first | (obtain ⟨rfl, _⟩ := h; rfl) | (obtain ⟨_, h⟩ := h)))) (fun cdv AA outer s H E hr ds S R Xs h => ?_)
  obtain ⟨r, w, x, gs, t, r', rfl, rfl, hrs, hw, hwl, hgl, hrb, hre, hR⟩ := h
  refine ⟨_, (pss_cons (ps_set (i := 4) sc_rebounded.nd rfl (Or.inl rfl) (pe_callTy (k_list K) rfl T.b_list PyProof.Rows.boot_list (pa_cons (pv 0) pa_nil)))
  (pss_cons (ps_for PassesOwn.never rfl (pi_list (pv 2)) (k_gtup K 3 rfl (pgs_cons (pg_name (i := 5) sc_rebounded.nd rfl (Or.inl rfl)) (pgs_cons (pg_name (i := 6) sc_rebounded.nd rfl (Or.inl rfl)) (pgs_cons (pg_name (i := 7) sc_rebounded.nd rfl (Or.inl rfl)) pgs_nil)))) (pss_cons (ps_set (i := 8) sc_rebounded.nd rfl (Or.inl rfl) (pe_slice (k_slL K) (pv 4) (po_some (pv 5)) (po_some (pe_op op_add (pv 6) pe_int))))
  (pss_cons (ps_set (i := 9) sc_rebounded.nd rfl (Or.inl rfl) (pc c_together_speeds (hr.mono (by decide)) rfl (pa_cons (pv 8) (pa_cons (pc c_wall_named (hr.mono (by decide)) rfl (pa_cons (pv 1) (pa_cons (pv 7) pa_nil))) (pa_cons (pv 3) pa_nil)))))
  (pss_one (ps_for PassesOwn.never rfl (pi_enumA rfl T.b_enumerate (pa_cons (pv 9) pa_nil)) (k_gtup K 2 rfl (pgs_cons (pg_name (i := 10) sc_rebounded.nd rfl (Or.inl rfl)) (pgs_cons (pg_name (i := 11) sc_rebounded.nd rfl (Or.inl rfl)) pgs_nil))) (pss_one (ps_asg (pe_tup (pa_cons (pe_ix (k_ixT K) (pe_ix (k_ixL K) (pv 8) (pv 10) (fun _ _ => rfl)) (C8.pe_gc rfl T.g_PLACE) (fun _ _ => rfl)) (pa_cons (pv 11) (pa_cons (pe_ix (k_ixT K) (pe_ix (k_ixL K) (pv 8) (pv 10) (fun _ _ => rfl)) (C8.pe_gc rfl T.g_WEIGHT) (fun _ _ => rfl)) pa_nil)))) (pg_sub (pv 4) (pe_op op_add (pv 5) (pv 10)) set_list))))))))
  (pss_one (ps_ret (pe_callTy (k_tuple K) rfl T.b_tuple PyProof.Rows.boot_tuple (pa_cons (pv 4) pa_nil)))))), ?_⟩
  try dsimp only [cxOf]
  refine s_seq (s_setL (el_listT (ed_var rfl)) fun y => s_seq (s_for (ei_lst (ed_var rfl) (lst_of (k := 1) rfl) ⟨fun i env S => ∃ r1 o5 o6 o7 o8 o9 o10 o11, i ≤ gs.length ∧ env = [some (dRow r), some (dWls w), some (.v x), some (dR t), some (.v y), o5, o6, o7, o8, o9, o10, o11] ∧ S = [(y, .l (r1.map dBall)), (x, .l (gs.map dGroup))] ∧ RowSz r1 ∧ WOk r1 ∧ RbSz w r1 (gs.drop i) ∧ rebounded w r1 (gs.drop i) = some r', ⟨r, none, none, none, none, none, none, none, Nat.zero_le _, rfl, rfl, hrs, hw, hrb, hre⟩, ?_, ?_, ?_⟩)))
  · rintro i env' S' _ ⟨r1, o5, o6, o7, o8, o9, o10, o11, _, rfl, rfl, _⟩
    exact lst_of (k := 1) rfl
  · rintro i d env' S' hd ⟨r1, o5, o6, o7, o8, o9, o10, o11, hi, rfl, rfl, hs1, hw1, hb1, he1⟩
    rw [List.getElem?_map] at hd
    obtain ⟨g, hg, rfl⟩ := Option.map_eq_some_iff.mp hd
    obtain ⟨hil, eg⟩ := List.getElem?_eq_some_iff.mp hg
    have dr : gs.drop i = g :: gs.drop (i + 1) := by rw [List.drop_eq_getElem_cons hil, eg]
    rw [dr] at hb1 he1
    obtain ⟨hle, hlt, qs, hdl, hq, hrest⟩ := hb1
    have he2 := rebounded_cons hdl he1
    have sl := slice_len (g := g) hle hlt
    have ql := dealt_len hdl
    have ec : cut (r1.map dBall) (some (g.first : Int)) (some ((g.last : Int) + 1)) = (slice r1 g).map dBall := by
      have := cut_nat (r1.map dBall) (a := g.first) (b := g.last + 1) (by simp; omega) (by simp; omega)
      rw [show ((g.last + 1 : Nat) : Int) = (g.last : Int) + 1 from rfl] at this
      rw [this]; unfold slice; rw [List.map_take, List.map_drop]
    refine ⟨_, eg_tup (egs_cons eg_name (egs_cons eg_name (egs_cons eg_name egs_nil))), s_seq (s_setL (el_is (el_slL (ed_var rfl) (lst_of (k := 0) rfl) (eo_some (ed_var rfl)) (eo_some (ed_op (ed_var rfl) ed_c rd_I0))) ec) fun z => s_seq (s_setE (ev_call0 (eva_d (ea_cons (ed_var rfl) (ea_cons (ed_call (ea_cons (ed_var rfl) (ea_cons (ed_var rfl) ea_nil)) ph_wall_named) (ea_cons (ed_var rfl) ea_nil))) ⟨[_], _, rfl, z, slice r1 g, wallNamed w g.wh, t, qs, rfl, rfl, ⟨?_, fun b hb => hs1.2 b (slice_mem hb)⟩, fun b hb => hw1 b (slice_mem hb), ?_, hdl, hq, fun u => s_let (s_for (ei_enumAL (eva_d (ea_cons (ed_var rfl) ea_nil) ⟨.v u, qs.map dR, rfl, lst_of (k := 0) rfl, ?_⟩)))⟩))))⟩
    · have := hs1.1; omega
    · cases g.wh with
      | low => exact hwl.1
      | high => exact hwl.2
      | no => exact fun _ z => nomatch z
    · refine ⟨fun k env S => ∃ o10 o11, k ≤ qs.length ∧ env = [some (dRow r), some (dWls w), some (.v x), some (dR t), some (.v y), some (dI (g.first : Int)), some (dI (g.last : Int)), some (dWh g.wh), some (.v z), some (.v u), o10, o11] ∧ S = [(u, .l (qs.map dR)), (z, .l ((slice r1 g).map dBall)), (y, .l ((putSpeeds r1 g.first (qs.take k)).map dBall)), (x, .l (gs.map dGroup))], ⟨o10, o11, Nat.zero_le _, rfl, rfl⟩, ?_, ?_, ?_⟩
      · rintro k env' S' _ ⟨o10, o11, _, rfl, rfl⟩
        exact lst_of (k := 0) rfl
      · rintro k d env' S' hd ⟨o10, o11, hk, rfl, rfl⟩
        have hkl : k < qs.length := by
          have := (List.getElem?_eq_some_iff.mp hd).1
          rw [enumD_len, List.length_map] at this; exact this
        obtain ⟨q, hqk⟩ : ∃ q, qs[k]? = some q := ⟨_, List.getElem?_eq_getElem hkl⟩
        have hd' := enumD_get (ds := qs.map dR) (i := k) (x := dR q) (by rw [List.getElem?_map, hqk]; rfl)
        rw [hd] at hd'
        cases hd'
        have hks : k < (slice r1 g).length := by omega
        obtain ⟨b, hb⟩ : ∃ b, (slice r1 g)[k]? = some b := ⟨_, List.getElem?_eq_getElem hks⟩
        have hb' : r1[g.first + k]? = some b := by rw [← slice_get hks]; exact hb
        have hix : atI ((slice r1 g).map dBall) (k : Int) = some (dBall b) := by rw [atI_at (by simp; exact hks), List.getElem?_map, hb]; rfl
        have hsn := putSpeeds_snoc k qs r1 g.first b q hqk (by omega) hb'
        refine ⟨_, eg_tup (egs_cons eg_name (egs_cons eg_name egs_nil)), s_setitem (k := 2) (j := g.first + k) (ed_tup (ea_cons (ed_op (ed_ixL (ed_var rfl) (lst_of (k := 1) rfl) (ed_var rfl) hix) ed_c rd_ix0) (ea_cons (ed_var rfl) (ea_cons (ed_op (ed_ixL (ed_var rfl) (lst_of (k := 1) rfl) (ed_var rfl) hix) ed_c rd_ix2) ea_nil)))) (ed_var rfl) rfl (ed_op (ed_var rfl) (ed_var rfl) rd_I0) (by rw [List.length_map, putSpeeds_len]; exact ixN_at (by omega)) ⟨_, _, hkl, rfl, ?_⟩⟩
        rw [hsn, List.map_set]; rfl
      · rintro env' S' ⟨o10, o11, hk, rfl, rfl⟩
        exact ⟨[_, _], _, rfl, putSpeeds r1 g.first qs, _, _, _, _, _, _, _, hil, rfl, by rw [enumD_len, List.length_map, List.take_length], putSpeeds_sz hs1 hq, putSpeeds_w hw1, hrest, he2⟩
  · rintro env' S' ⟨r1, o5, o6, o7, o8, o9, o10, o11, _, rfl, rfl, _, _, _, he⟩
    rw [List.length_map, List.drop_length] at he
    cases he
    exact s_retF (F := [_]) (ed_tupleL (ed_var rfl) (lst_of (k := 0) rfl)) hR
end
end PG
namespace PG
open PySem L2 RZ DL
section
variable {P : Program} {w : World} {K : PySem.W.Frag} {mg : Str → Option Value} {base : Heap} {A : Adr}
theorem ok_Way___init__ {f : Addr} {fd : FuncData} {C_Way : Addr} (F : Fun K "__init__" "Way.__init__" s_Way___init__ f fd) (T : Txt K mg A)   (hK : WayK K C_Way) : FnOk P w K mg base CX0 1 f fd ["self", "row", "walls"] (spD K (Ph_Way___init__ C_Way)) := by
  refine okD F sc_Way___init__ (fun ds S R Xs h => by (repeat (first | (obtain ⟨rfl, _⟩ := h; rfl) | (obtain ⟨_, h⟩ := h)))) (fun cdv AA outer s H E hr ds S R Xs h => ?_)
  obtain ⟨x, r, w, rfl, rfl, hR⟩ := h
  refine ⟨_, (pss_cons (ps_fld (pv 0) (pe_callTy (k_tuple K) rfl T.b_tuple PyProof.Rows.boot_tuple (pa_cons (pv 1) pa_nil)) rfl)
  (pss_cons (ps_fld (pv 0) (pe_callTy (k_tuple K) rfl T.b_tuple PyProof.Rows.boot_tuple (pa_cons (pv 2) pa_nil)) rfl)
  (pss_cons (ps_fld (pv 0) (pe_glob (v := V.ref A.NOUGHT) rfl T.g_NOUGHT rfl) rfl)
  (pss_one (ps_fld (pv 0) (pe_lst pa_nil) rfl))))), ?_⟩
  try dsimp only [cxOf]
  refine s_seq (s_fld (ev_d (ed_tupleT (ed_var rfl)) ⟨0, x, _, ed_var rfl, rfl, Nat.le_of_ble_eq_true rfl, s_seq (s_fld (ev_d (ed_tupleT (ed_var rfl)) ⟨0, x, _, ed_var rfl, rfl, Nat.le_of_ble_eq_true rfl, s_seq (s_fld (ev_d (ed_k (d := dR 0) T.d_NOUGHT) ⟨0, x, _, ed_var rfl, rfl, Nat.le_of_ble_eq_true rfl, s_fld (ev_l (el_lst ea_nil) fun c => ⟨1, x, _, ed_var rfl, rfl, Nat.le_of_ble_eq_true rfl, hR c⟩) hK.cls hK.comings⟩) hK.cls hK.moment)⟩) hK.cls hK.walls)⟩) hK.cls hK.row)
theorem ok_Way_coming_by {f : Addr} {fd : FuncData} {C_Way : Addr} (F : Fun K "coming_by" "Way.coming_by" s_Way_coming_by f fd) (T : Txt K mg A)  (c_least_moment : Cal P w K mg base 5 "least_moment" Ph_least_moment []) (c_less : Cal P w K mg base 1 "less" Ph_less []) (c_plus : Cal P w K mg base 3 "plus" Ph_plus []) (hK : WayK K C_Way) : FnOk P w K mg base CX0 6 f fd ["self", "t"] (spD K (Ph_Way_coming_by C_Way)) := by
  refine okD F sc_Way_coming_by (fun ds S R Xs h => by (repeat (first | (obtain ⟨rfl, _⟩ := h; rfl) | (obtain ⟨_, h⟩ := h)))) (fun cdv AA outer s H E hr ds S R Xs h => ?_)
  obtain ⟨x, c, s, t, rfl, rfl, ⟨h1, h2, h3, h4, h5⟩, ht, hR⟩ := h
  refine ⟨_, (pss_cons (ps_set (i := 2) sc_Way_coming_by.nd rfl (Or.inl rfl) (pc c_least_moment (hr.mono (by decide)) rfl (pa_cons (k_fld K (pv 0) rfl) (pa_cons (k_fld K (pv 0) rfl) pa_nil))))
  (pss_cons (ps_if (PW.pt (pw_or (pt_cmpR op_isN (pv 2) pe_non (nomark _)) (pw_or1 (PW.pt (pw_and (pt_cmpR op_notN (pv 1) pe_non (nomark _)) (pw_and1 (pt_val (pc c_less (hr.mono (by decide)) rfl (pa_cons (pv 1) (pa_cons (pc c_plus (hr.mono (by decide)) rfl (pa_cons (k_fld K (pv 0) rfl) (pa_cons (pv 2) pa_nil))) pa_nil)))))))))) (pss_one (ps_ret pe_non)) pss_nil)
  (pss_one (ps_ret (pv 2))))), ?_⟩
  try dsimp only [cxOf]
  refine s_seq (s_set (ed_call (ea_cons (ed_fld (ed_var rfl) (k := 0) rfl hK.cls hK.row rfl) (ea_cons (ed_fld (ed_var rfl) (k := 0) rfl hK.cls hK.walls rfl) ea_nil)) (ph_least_moment h1 h3 h4)) (s_seq ?_))
  have hls := least_sz h4
  have ef : s.far t = farOf s.m (least s.r s.w) t := rfl
  rw [ef] at hR
  generalize least s.r s.w = o at *
  cases o with
  | none => exact s_ifT (et_orT (et_test (ed_op (ed_var rfl) ed_c rd_isN)) rfl) rfl (s_ret ed_c hR)
  | some f =>
    cases t with
    | none => exact s_ifF (et_orF (et_test (ed_op (ed_var rfl) ed_c rd_isN)) rfl (et_andF (et_test (ed_op (ed_var rfl) ed_c rd_notN)) rfl)) rfl (s_next (s_ret (ed_var rfl) hR))
    | some q =>
      have zs : Sz BB (s.m + f) := (Sz.add h5 (hls f rfl)).mono (by decide)
      refine s_if (et_orF (et_test (ed_op (ed_var rfl) ed_c rd_isN)) rfl (et_andT (et_test (ed_op (ed_var rfl) ed_c rd_notN)) rfl (et_B (ed_call (ea_cons (ed_var rfl) (ea_cons (ed_call (ea_cons (ed_fld (ed_var rfl) (k := 0) rfl hK.cls hK.moment rfl) (ea_cons (ed_var rfl) ea_nil)) (ph_plus h5.up (hls f rfl).up zs)) ea_nil)) (ph_less (ht q rfl).up zs))))) (fun z => s_ret ed_c ?_) (fun z => s_next (s_ret (ed_var rfl) ?_))
      · have hR : R (dOR (if q < s.m + f then none else some f)) [(x, Th.i C_Way (WayF s c))] := hR
        rw [if_pos (of_decide_eq_true z)] at hR; exact hR
      · have hR : R (dOR (if q < s.m + f then none else some f)) [(x, Th.i C_Way (WayF s c))] := hR
        rw [if_neg (of_decide_eq_false z)] at hR; exact hR
theorem ok_Way_go_on {f : Addr} {fd : FuncData} {C_Way : Addr} (F : Fun K "go_on" "Way.go_on" s_Way_go_on f fd) (T : Txt K mg A)  (c_plus : Cal P w K mg base 3 "plus" Ph_plus []) (c_row_at : Cal P w K mg base 6 "row_at" Ph_row_at []) (c_walls_at : Cal P w K mg base 6 "walls_at" Ph_walls_at []) (hK : WayK K C_Way) : FnOk P w K mg base CX0 7 f fd ["self", "far"] (spD K (Ph_Way_go_on C_Way)) := by
  refine okD F sc_Way_go_on (fun ds S R Xs h => by (repeat (first | (obtain ⟨rfl, _⟩ := h; rfl) | (obtain ⟨_, h⟩ := h)))) (fun cdv AA outer s H E hr ds S R Xs h => ?_)
  obtain ⟨x, c, s, f, rfl, rfl, h1, h2, h3, h4, ⟨h5, h6, h7⟩, hR⟩ := h
  refine ⟨_, (pss_cons (ps_fld (pv 0) (pc c_row_at (hr.mono (by decide)) rfl (pa_cons (k_fld K (pv 0) rfl) (pa_cons (pv 1) pa_nil))) rfl)
  (pss_cons (ps_fld (pv 0) (pc c_walls_at (hr.mono (by decide)) rfl (pa_cons (k_fld K (pv 0) rfl) (pa_cons (pv 1) pa_nil))) rfl)
  (pss_one (ps_fld (pv 0) (pc c_plus (hr.mono (by decide)) rfl (pa_cons (k_fld K (pv 0) rfl) (pa_cons (pv 1) pa_nil))) rfl)))), ?_⟩
  try dsimp only [cxOf]
  refine s_seq (s_fld (ev_d (ed_call (ea_cons (ed_fld (ed_var rfl) (k := 0) rfl hK.cls hK.row rfl) (ea_cons (ed_var rfl) ea_nil)) (ph_row_at h1 h4 h5)) ⟨0, x, _, ed_var rfl, rfl, Nat.le_of_ble_eq_true rfl, ?_⟩) hK.cls hK.row)
  refine s_seq (s_fld (ev_d (ed_call (ea_cons (ed_fld (ed_var rfl) (k := 0) rfl hK.cls hK.walls rfl) (ea_cons (ed_var rfl) ea_nil)) (ph_walls_at h2 h4 h6)) ⟨0, x, _, ed_var rfl, rfl, Nat.le_of_ble_eq_true rfl, ?_⟩) hK.cls hK.walls)
  exact s_fld (ev_d (ed_call (ea_cons (ed_fld (ed_var rfl) (k := 0) rfl hK.cls hK.moment rfl) (ea_cons (ed_var rfl) ea_nil)) (ph_plus h3.up h4.up h7.up)) ⟨0, x, _, ed_var rfl, rfl, Nat.le_of_ble_eq_true rfl, hR⟩) hK.cls hK.moment
theorem ok_Way_come {f : Addr} {fd : FuncData} {C_Way : Addr} (F : Fun K "come" "Way.come" s_Way_come f fd) (T : Txt K mg A)  (c_Way_go_on : Met P w K mg base 7 C_Way "go_on" (Ph_Way_go_on C_Way)) (c_groups_at : Cal P w K mg base 3 "groups_at" Ph_groups_at []) (c_rebounded : Cal P w K mg base 6 "rebounded" Ph_rebounded []) (hK : WayK K C_Way) : FnOk P w K mg base CX0 8 f fd ["self", "far"] (spD K (Ph_Way_come C_Way)) := by
  refine okD F sc_Way_come (fun ds S R Xs h => by (repeat (first | (obtain ⟨rfl, _⟩ := h; rfl) | (obtain ⟨_, h⟩ := h)))) (fun cdv AA outer s H E hr ds S R Xs h => ?_)
  obtain ⟨x, c, s, s', f, rfl, rfl, ⟨h1, h2, h3, h4, h5⟩, hf, ⟨hg, hl, hrb, ew, em, er, ec, hm⟩, hR⟩ := h
  refine ⟨_, (pss_cons (ps_expr (pm c_Way_go_on (hr.mono (by decide)) (pv 0) (pa_cons (pv 1) pa_nil)))
  (pss_cons (ps_set (i := 2) sc_Way_come.nd rfl (Or.inl rfl) (pc c_groups_at (hr.mono (by decide)) rfl (pa_cons (k_fld K (pv 0) rfl) (pa_cons (k_fld K (pv 0) rfl) pa_nil))))
  (pss_cons (ps_fld (pv 0) (pc c_rebounded (hr.mono (by decide)) rfl (pa_cons (k_fld K (pv 0) rfl) (pa_cons (k_fld K (pv 0) rfl) (pa_cons (pv 2) (pa_cons (k_fld K (pv 0) rfl) pa_nil))))) rfl)
  (pss_cons (ps_expr (pe_bm PySem.F.plainAttrs_list PySem.F.slot_list_extend PySem.F.type_list_extend mt_extend (k_fld K (pv 0) rfl) (pa_cons (pe_lc (own := [("group", 3)]) rfl sc_Way_come.nd (pi_list (pv 2)) (blkOk_by (own := [("group", 3)]) (N := N_Way_come) (sc := defScope s_Way_come) (by decide +kernel)) (by exact fun _ _ _ _ _ => (pg_name (i := 3) sc_Way_come.nd rfl (Or.inl rfl))) (by exact fun _ _ _ _ _ => pts_nil) (by exact fun _ _ _ _ _ => (pe_op (k_catA K) (pe_tup (pa_cons (k_fld K (pv 0) rfl) pa_nil)) (pv 3)))) pa_nil)))
  (pss_one (ps_if (pt_cmpR op_gt (pe_callB (k_len K) rfl T.b_len PySem.boot_len (pa_cons (k_fld K (pv 0) rfl) pa_nil)) (C8.pe_gc rfl T.g_MOST_GROUPS) (nomark _)) (pss_one ps_never) pss_nil)))))), ?_⟩
  try dsimp only [cxOf]
  have ecm : s'.cs.map dCom = s.cs.map dCom ++ (groupsAt (s.goes f).r (s.goes f).w).map fun g => dCom (s.m + f, g) := by rw [ec, List.map_append, List.map_map]; rfl
  have eW : WayF s' c = WayF ⟨s'.r, (s.goes f).w, (s.goes f).m, s.cs⟩ c := by unfold WayF; rw [ew, em]
  have hsl : (s.cs.map dCom ++ (groupsAt (s.goes f).r (s.goes f).w).map fun g => dCom (s.m + f, g)).length ≤ 400 := by rw [← ecm, List.length_map]; exact hm
  rw [eW, ecm] at hR
  have hsl2 := hsl
  rw [List.length_append] at hsl2
  refine s_seq (s_dropE (ev_meth0 (ed_var rfl) (k := 0) rfl rfl (eva_d (ea_cons (ed_var rfl) ea_nil) ⟨[_], [_], List.Perm.refl _, x, c, s, f, rfl, rfl, h1, h3, h5, hf, hg, ?_⟩)))
  refine s_seq (s_setE (ev_call0 (eva_d (ea_cons (ed_fld (ed_var rfl) (k := 0) rfl hK.cls hK.row rfl) (ea_cons (ed_fld (ed_var rfl) (k := 0) rfl hK.cls hK.walls rfl) ea_nil)) ⟨[], _, rfl, _, _, rfl, rfl, hg.1, hg.2.1, fun g => ?_⟩)))
  refine s_seq (s_fld (ev_call0 (eva_d (ea_cons (ed_fld (ed_var rfl) (k := 1) rfl hK.cls hK.row rfl) (ea_cons (ed_fld (ed_var rfl) (k := 1) rfl hK.cls hK.walls rfl) (ea_cons (ed_var rfl) (ea_cons (ed_fld (ed_var rfl) (k := 1) rfl hK.cls hK.moment rfl) ea_nil)))) ⟨[_], _, rfl, _, _, g, _, _, s'.r, rfl, rfl, hg.1, goes_w h2, hg.2.1, hl, hrb, er, 1, x, _, ed_var rfl, rfl, Nat.le_of_ble_eq_true rfl, ?_⟩)) hK.cls hK.row)
  refine s_seq (s_dropE (ev_ext (ed_fld (ed_var rfl) (k := 1) rfl hK.cls hK.comings rfl) (k := 2) rfl (el_mapT (l := groupsAt (s.goes f).r (s.goes f).w) (da := dGroup) (f := fun gg => dCom (s.m + f, gg)) (ip_lst (ed_var rfl) (lst_of (k := 0) rfl)) (by omega) fun a ha => ⟨_, egc_name, ed_op (ed_tup (ea_cons (ed_fld (ed_var rfl) (k := 1) rfl hK.cls hK.moment rfl) ea_nil)) (ed_var rfl) (rd_catA (Nat.le_of_ble_eq_true rfl))⟩) (by omega) ?_))
  exact s_let (s_ifF (et_test (ed_op (ed_lenL (ed_fld (ed_var rfl) (k := 1) rfl hK.cls hK.comings rfl) (lst_of (k := 2) rfl)) ed_c rd_I0)) (decide_eq_false (by omega)) (s_next ⟨[_], _, rfl, hR⟩))
theorem ok_Way_walk {f : Addr} {fd : FuncData} {C_Way : Addr} (F : Fun K "walk" "Way.walk" s_Way_walk f fd) (T : Txt K mg A)  (c_Way_come : Met P w K mg base 8 C_Way "come" (Ph_Way_come C_Way)) (c_Way_coming_by : Met P w K mg base 6 C_Way "coming_by" (Ph_Way_coming_by C_Way)) (hK : WayK K C_Way) : FnOk P w K mg base CX0 9 f fd ["self", "t"] (spD K (Ph_Way_walk C_Way)) := by
  refine okD F sc_Way_walk (fun ds S R Xs h => by (repeat (first | (obtain ⟨rfl, _⟩ := h; rfl) | (obtain ⟨_, h⟩ := h)))) (fun cdv AA outer s H E hr ds S R Xs h => ?_)
  obtain ⟨x, c, s, s', t, n, rfl, rfl, ht, hw, hR⟩ := h
  refine ⟨_, (pss_cons (ps_set (i := 2) sc_Way_walk.nd rfl (Or.inl rfl) (pm c_Way_coming_by (hr.mono (by decide)) (pv 0) (pa_cons (pv 1) pa_nil)))
  (pss_one (ps_while PassesOwn.never (pt_cmpR op_notN (pv 2) pe_non (nomark _)) (pss_cons (ps_expr (pm c_Way_come (hr.mono (by decide)) (pv 0) (pa_cons (pv 2) pa_nil)))
  (pss_one (ps_set (i := 2) sc_Way_walk.nd rfl (Or.inl rfl) (pm c_Way_coming_by (hr.mono (by decide)) (pv 0) (pa_cons (pv 1) pa_nil)))))))), ?_⟩
  try dsimp only [cxOf]
  have call : ∀ (s : DL.Run) (S1 : Sto), S1 = [(x, Th.i C_Way (WayF s c)), (c, .l (s.cs.map dCom))] → RunSz s → ∀ (o : Option D) (P : D → Sto → Prop), P (dOR (s.far t)) S1 → EvE K E XF (tMeth C_Way "coming_by" (spD K (Ph_Way_coming_by C_Way)) [] E0 (tVar 0) (tCons (tVar 1) tNil)) [some (.v x), some (dOR t), o] S1 P := by
    rintro s _ rfl hs o P hP
    exact ev_meth0 (ed_var rfl) (k := 0) rfl rfl (eva_d (ea_cons (ed_var rfl) ea_nil) ⟨[_], [_], List.Perm.refl _, x, c, s, t, rfl, rfl, hs, ht, hP⟩)
  refine s_seq (s_setE (call s _ rfl (walks_sz hw) _ _ ?_))
  refine s_while (I := fun m env S => ∃ s1 : DL.Run, DL.Walks t m s1 s' ∧ env = [some (.v x), some (dOR t), some (dOR (s1.far t))] ∧ S = [(x, Th.i C_Way (WayF s1 c)), (c, .l (s1.cs.map dCom))]) (m := n) ⟨s, hw, rfl, rfl⟩ ?_
  rintro m env S ⟨s1, hw1, rfl, rfl⟩
  cases m with
  | zero =>
    obtain ⟨hs, hfar, rfl⟩ := hw1
    refine evt_t (b := false) (et_is (et_test (ed_op (ed_var rfl) ed_c rd_notN)) (by rw [hfar]; rfl)) ?_
    rw [if_neg Bool.false_ne_true]
    exact hR
  | succ m =>
    obtain ⟨hs, f, s2, hfar, hc, hw2⟩ := hw1
    rw [hfar]
    refine evt_t (b := true) (et_is (et_test (ed_op (ed_var rfl) ed_c rd_notN)) rfl) ?_
    rw [if_pos rfl]
    have hf : Sz SB f := least_sz hs.2.2.2.1 f (far_least hfar)
    refine s_seq (s_dropE (ev_meth0 (ed_var rfl) (k := 0) rfl rfl (eva_d (ea_cons (ed_var rfl) ea_nil) ⟨[_, _], [], List.Perm.refl _, x, c, s1, s2, f, rfl, rfl, hs, hf, hc, ?_⟩)))
    refine s_setE (call s2 _ rfl (walks_sz hw2) _ _ ⟨m, Nat.lt_succ_self _, s2, hw2, rfl, rfl⟩)
theorem ok_ended {f : Addr} {fd : FuncData} {C_Way : Addr} (F : Fun K "ended" "ended" s_ended f fd) (T : Txt K mg A)  (c_Way : Mak P w K mg base 1 "Way" C_Way (Ph_Way___init__ C_Way)) (c_Way_walk : Met P w K mg base 9 C_Way "walk" (Ph_Way_walk C_Way)) (hK : WayK K C_Way) : FnOk P w K mg base CX0 10 f fd ["row", "walls"] (spD K (Ph_ended)) := by
  refine okD F sc_ended (fun ds S R Xs h => by (repeat (first | (obtain ⟨rfl, _⟩ := h; rfl) | (obtain ⟨_, h⟩ := h)))) (fun cdv AA outer s H E hr ds S R Xs h => ?_)
  obtain ⟨r, w, s', n, rfl, rfl, hn, hw, hR⟩ := h
  refine ⟨_, (pss_cons (ps_if (PW.pt (pw_and (pt_cmpR op_notN (pe_ix (k_ixT K) (pv 1) (C8.pe_gc rfl T.g_LOW) (fun _ _ => rfl)) pe_non (nomark _)) (pw_and1 (pt_cmpR op_notN (pe_ix (k_ixT K) (pv 1) (C8.pe_gc rfl T.g_HIGH) (fun _ _ => rfl)) pe_non (nomark _))))) (pss_one ps_never) pss_nil)
  (pss_cons (ps_set (i := 2) sc_ended.nd rfl (Or.inl rfl) (pk c_Way (hr.mono (by decide)) rfl (pa_cons (pv 0) (pa_cons (pv 1) pa_nil))))
  (pss_cons (ps_expr (pm c_Way_walk (hr.mono (by decide)) (pv 2) (pa_cons pe_non pa_nil)))
  (pss_one (ps_ret (pe_tup (pa_cons (k_fld K (pv 2) rfl) (pa_cons (k_fld K (pv 2) rfl) (pa_cons (k_fld K (pv 2) rfl) pa_nil))))))))), ?_⟩
  try dsimp only [cxOf]
  have e : (!isN (dWl w.lo) && !isN (dWl w.hi)) = false := by
    rcases hn with z | z
    · rw [z]; rfl
    · rw [z, Bool.and_comm]; rfl
  refine s_seq (s_ifF (et_and (et_test (ed_op (ed_op (ed_var rfl) ed_c rd_ix0) ed_c rd_notN)) fun _ => et_test (ed_op (ed_op (ed_var rfl) ed_c rd_ix1) ed_c rd_notN)) e (s_next ?_))
  refine s_seq (s_setE (ev_make0 (eva_d (ea_cons (ed_var rfl) (ea_cons (ed_var rfl) ea_nil)) fun x => ⟨[_], [], List.Perm.refl _, x, r, w, rfl, rfl, fun c => ⟨rfl, ?_⟩⟩)))
  refine s_seq (s_dropE (ev_meth0 (ed_var rfl) (k := 1) rfl rfl (eva_d (ea_cons ed_c ea_nil) ⟨[_, _], [], List.Perm.swap _ _ _, x, c, ⟨r, w, 0, []⟩, s', none, n, rfl, rfl, (fun _ z => nomatch z), hw, ?_⟩)))
  exact s_retK (F := [_]) (ed_tup (ea_cons (ed_fld (ed_var rfl) (k := 0) rfl hK.cls hK.comings rfl) (ea_cons (ed_fld (ed_var rfl) (k := 0) rfl hK.cls hK.row rfl) (ea_cons (ed_fld (ed_var rfl) (k := 0) rfl hK.cls hK.walls rfl) ea_nil)))) rfl (hR c)
end
end PG
namespace PG
open PySem L2 RZ DL
section
variable {P : Program} {w : World} {K : PySem.W.Frag} {mg : Str → Option Value} {base : Heap} {A : Adr}
theorem ok_is_weight {f : Addr} {fd : FuncData}  (F : Fun K "is_weight" "is_weight" s_is_weight f fd) (T : Txt K mg A)  (c_is_whole : Cal P w K mg base 1 "is_whole" Ph_is_whole [])  : FnOk P w K mg base CX0 2 f fd ["thing"] (spD K (Ph_is_weight)) := by
  refine okD F sc_is_weight (fun ds S R Xs h => by (repeat (first | (obtain ⟨rfl, _⟩ := h; rfl) | (obtain ⟨_, h⟩ := h)))) (fun cdv AA outer s H E hr ds S R Xs h => ?_)
  obtain ⟨d, rfl, rfl, hd, hR⟩ := h
  refine ⟨_, (pss_one (ps_ret (pe_and (pc c_is_whole (hr.mono (by decide)) rfl (pa_cons (pv 0) pa_nil)) (pe_one (pe_chain op_le op_le pe_int (pv 0) (C8.pe_gc rfl T.g_GREATEST)))))), ?_⟩
  try dsimp only [cxOf]
  refine s_ret ?_ hR
  rw [isWt_eq]
  refine ed_and (ed_call (ea_cons (ed_var rfl) ea_nil) (ph_is_whole' hd)) fun z => ?_
  match d, z with
  | .v (.int i), _ => exact ed_cmp2 ed_c (ed_var rfl) rd_I0 (fun _ => ed_c) (fun _ => rd_I0)
theorem ok_look_at_weights {f : Addr} {fd : FuncData}  (F : Fun K "look_at_weights" "look_at_weights" s_look_at_weights f fd) (T : Txt K mg A)  (c_is_weight : Cal P w K mg base 2 "is_weight" Ph_is_weight [])  : FnOk P w K mg base CX0 3 f fd ["weights"] (spD K (Ph_look_at_weights)) := by
  refine okD F sc_look_at_weights (fun ds S R Xs h => by (repeat (first | (obtain ⟨rfl, _⟩ := h; rfl) | (obtain ⟨_, h⟩ := h)))) (fun cdv AA outer s H E hr ds S R Xs h => ?_)
  obtain ⟨a, b, c, rfl, rfl, ⟨hb, ha, hc, hac⟩, hR⟩ := h
  refine ⟨_, (pss_cons (ps_if (PW.pt (pw_or (pt_not (pt_val (pe_callB (k_isi K) rfl T.b_isinstance PyProof.Rows.boot_isinstance (pa_cons (pv 0) (pa_cons (pe_bltn (v := V.ty "tuple") (by rfl) T.b_tuple PyProof.Rows.boot_tuple rfl) pa_nil))))) (pw_or (pt_cmpR op_ne (pe_callB (k_len K) rfl T.b_len PySem.boot_len (pa_cons (pv 0) pa_nil)) pe_int (nomark _)) (pw_or1 (pt_not (pt_val (pc c_is_weight (hr.mono (by decide)) rfl (pa_cons (pe_ix (k_ixT K) (pv 0) pe_int (fun _ _ => rfl)) pa_nil)))))))) (pss_one ps_never) pss_nil)
  (pss_cons (ps_if (pt_cmpR op_lt (pe_callB (k_len K) rfl T.b_len PySem.boot_len (pa_cons (pe_lc (own := [("weight", 1)]) rfl sc_look_at_weights.nd (pi_tup (pv 0)) (blkOk_by (own := [("weight", 1)]) (N := N_look_at_weights) (sc := defScope s_look_at_weights) (by decide +kernel)) (by exact fun _ _ _ _ _ => (pg_name (i := 1) sc_look_at_weights.nd rfl (Or.inl rfl))) (by exact fun _ _ _ _ _ => (pts_one (pt_val (pc c_is_weight (hr.mono (by decide)) rfl (pa_cons (pv 1) pa_nil))))) (by exact fun _ _ _ _ _ => (pv 1))) pa_nil)) pe_int (nomark _)) (pss_one ps_never) pss_nil)
  (pss_one (ps_if (pt_not (pt_val (pe_callB (k_all K rfl) rfl T.b_all PyProof.Rows.boot_all (pa_cons (pe_lc (own := [("weight", 1)]) rfl sc_look_at_weights.nd (pi_tup (pv 0)) (blkOk_by (own := [("weight", 1)]) (N := N_look_at_weights) (sc := defScope s_look_at_weights) (by decide +kernel)) (by exact fun _ _ _ _ _ => (pg_name (i := 1) sc_look_at_weights.nd rfl (Or.inl rfl))) (by exact fun _ _ _ _ _ => pts_nil) (by exact fun _ _ _ _ _ => (pe_or (pe_cmpR op_isN (pv 1) pe_non (nomark _)) (pe_one (pc c_is_weight (hr.mono (by decide)) rfl (pa_cons (pv 1) pa_nil)))))) pa_nil)))) (pss_one ps_never) pss_nil)))), ?_⟩
  try dsimp only [cxOf]
  have wt : ∀ o ∈ [a, some b, c], isWt (dW o) = o.isSome := by
    intro o ho
    simp only [List.mem_cons, List.not_mem_nil, or_false] at ho
    rcases ho with rfl | rfl | rfl
    · exact isWt_dW ha
    · exact isWt_ok hb
    · exact isWt_dW hc
  have hfm : 2 ≤ ([a, some b, c].filterMap fun o => o.map dI).length := by
    cases a with
    | none => cases c with
      | none => simp at hac
      | some c => exact Nat.le_of_ble_eq_true rfl
    | some a => cases c with
      | none => exact Nat.le_of_ble_eq_true rfl
      | some c => exact Nat.le_of_ble_eq_true rfl
  refine s_seq (s_ifF (et_orF (et_not (a := true) (et_B (ed_cb (ea_cons (ed_var rfl) (ea_cons ed_c ea_nil)) (rc_isi (by show ("tuple" : String) ≠ ""; decide) (kit_ty (by show kitB "tuple" "tuple" = some true; decide +kernel)))))) rfl (et_orF (et_test (ed_op (ed_lenT (ed_var rfl)) ed_c (rd_ne rfl))) rfl (et_not (et_B (ed_call (ea_cons (ed_op (ed_var rfl) ed_c rd_ix1) ea_nil) (ph_is_weight (dty_dW (some b)))))))) (by rw [isWt_ok hb]; rfl) (s_next ?_))
  refine s_seq (s_ifF (et_test (ed_op (ed_lenN (el_lcT (l := [a, some b, c]) (da := dW) (f := fun o => o.map dI) (ip_tup (ed_var rfl)) (by simp) fun o ho => ⟨_, isWt (dW o), egc_name, et_B (ed_call (ea_cons (ed_var rfl) ea_nil) (ph_is_weight (dty_dW o))), fun z => ?_, fun z => ?_⟩)) ed_c rd_I0)) (decide_eq_false (by omega)) (s_next ?_))
  · rw [wt o ho] at z
    cases o with
    | none => cases z
    | some i => exact ⟨_, rfl, ed_var rfl⟩
  · rw [wt o ho] at z
    cases o with
    | none => rfl
    | some i => cases z
  · refine s_ifF (et_not (a := true) (et_B (ed_is (ed_allN (bs := [true, true, true]) (el_is (el_mapT (l := [a, some b, c]) (da := dW) (f := fun _ => dB true) (ip_tup (ed_var rfl)) (by simp) fun o ho => ⟨_, egc_name, ?_⟩) rfl)) rfl))) rfl (s_next hR)
    have w := wt o ho
    have e : (isN (dW o) || isWt (dW o)) = true := by
      rw [w]
      cases o <;> rfl
    exact ed_is (ed_or (ed_op (ed_var rfl) ed_c rd_isN) fun _ => ed_call (ea_cons (ed_var rfl) ea_nil) (ph_is_weight (dty_dW o))) (by rw [e])
theorem ok_factor_of {f : Addr} {fd : FuncData}  (F : Fun K "factor_of" "factor_of" s_factor_of f fd) (T : Txt K mg A)  (c_ratio : Cal P w K mg base 2 "ratio" Ph_ratio [])  : FnOk P w K mg base CX0 3 f fd ["weights"] (spD K (Ph_factor_of)) := by
  refine okD F sc_factor_of (fun ds S R Xs h => by (repeat (first | (obtain ⟨rfl, _⟩ := h; rfl) | (obtain ⟨_, h⟩ := h)))) (fun cdv AA outer s H E hr ds S R Xs h => ?_)
  obtain ⟨a, b, c, rfl, rfl, ⟨hb, ha, hc, hac⟩, hR⟩ := h
  refine ⟨_, (pss_cons (ps_asg (pv 0) (k_gtup K 3 rfl (pgs_cons (pg_name (i := 1) sc_factor_of.nd rfl (Or.inl rfl)) (pgs_cons (pg_name (i := 2) sc_factor_of.nd rfl (Or.inl rfl)) (pgs_cons (pg_name (i := 3) sc_factor_of.nd rfl (Or.inl rfl)) pgs_nil)))))
  (pss_cons (ps_if (pt_cmpR op_isN (pv 1) pe_non (nomark _)) (pss_one (ps_ret (pc c_ratio (hr.mono (by decide)) rfl (pa_cons (pe_op op_mulW pe_int (pv 3)) (pa_cons (pe_op op_add (pv 2) (pv 3)) pa_nil))))) pss_nil)
  (pss_cons (ps_if (pt_cmpR op_isN (pv 3) pe_non (nomark _)) (pss_one (ps_ret (pc c_ratio (hr.mono (by decide)) rfl (pa_cons (pe_op op_mulW pe_int (pv 1)) (pa_cons (pe_op op_add (pv 1) (pv 2)) pa_nil))))) pss_nil)
  (pss_one (ps_ret (pc c_ratio (hr.mono (by decide)) rfl (pa_cons (pe_op op_mulW (pe_op op_mulW pe_int (pv 1)) (pv 3)) (pa_cons (pe_op op_mulW (pe_op op_add (pv 1) (pv 2)) (pe_op op_add (pv 2) (pv 3))) pa_nil)))))))), ?_⟩
  try dsimp only [cxOf]
  have q1 : ∀ i : Int, wOk i → CMulW 4 i := fun i h => wide_mul (a := 12) (b := 12) (by decide) (by have := h.1; have := h.2; omega) (by decide) (by decide) (by decide)
  have hb1 := hb.1
  have hb2 := hb.2
  refine s_seq (s_asg (ed_var rfl) (eg_tup (egs_cons eg_name (egs_cons eg_name (egs_cons eg_name egs_nil)))) (s_seq ?_))
  cases a with
  | none =>
    cases c with
    | none => simp at hac
    | some c =>
      have hc' := hc c rfl
      have h1 := hc'.1
      have h2 := hc'.2
      refine s_ifT (et_test (ed_op (ed_var rfl) ed_c rd_isN)) rfl (s_ret (ed_call (ea_cons (ed_op ed_c (ed_var rfl) (rd_I (q1 c hc'))) (ea_cons (ed_op (ed_var rfl) (ed_var rfl) rd_I0) ea_nil)) (ph_ratio (by omega) ((sz_divInt (n := 12) (by omega) (by omega) (by decide)).mono (by decide)))) hR)
  | some a =>
    have ha' := ha a rfl
    have h1 := ha'.1
    have h2 := ha'.2
    refine s_ifF (et_test (ed_op (ed_var rfl) ed_c rd_isN)) rfl (s_next (s_seq ?_))
    cases c with
    | none =>
      exact s_ifT (et_test (ed_op (ed_var rfl) ed_c rd_isN)) rfl (s_ret (ed_call (ea_cons (ed_op ed_c (ed_var rfl) (rd_I (q1 a ha'))) (ea_cons (ed_op (ed_var rfl) (ed_var rfl) rd_I0) ea_nil)) (ph_ratio (by omega) ((sz_divInt (n := 12) (by omega) (by omega) (by decide)).mono (by decide)))) hR)
    | some c =>
      have hc' := hc c rfl
      have h3 := hc'.1
      have h4 := hc'.2
      have hp : 0 < (a + b) * (b + c) := Int.mul_pos (by omega) (by omega)
      have z1 : (4 * a * c).natAbs < 2 ^ 24 := by
        have : (4 * a * c).natAbs < 2 ^ (12 + 12) := by rw [Int.natAbs_mul]; exact natlt (by omega) (by omega)
        exact this
      have z2 : ((a + b) * (b + c)).natAbs < 2 ^ 24 := by
        have : ((a + b) * (b + c)).natAbs < 2 ^ (12 + 12) := by rw [Int.natAbs_mul]; exact natlt (by omega) (by omega)
        exact this
      exact s_ifF (et_test (ed_op (ed_var rfl) ed_c rd_isN)) rfl (s_next (s_ret (ed_call (ea_cons (ed_op (ed_op ed_c (ed_var rfl) (rd_I (q1 a ha'))) (ed_var rfl) (rd_I (wide_mul (a := 12) (b := 12) (by omega) (by omega) (by decide) (by decide) (by decide)))) (ea_cons (ed_op (ed_op (ed_var rfl) (ed_var rfl) rd_I0) (ed_op (ed_var rfl) (ed_var rfl) rd_I0) (rd_I (wide_mul (a := 12) (b := 12) (by omega) (by omega) (by decide) (by decide) (by decide)))) ea_nil)) (ph_ratio (by omega) ((sz_divInt (n := 24) z1 z2 (by decide)).mono (by decide)))) hR))
theorem ok_numbers_of {f : Addr} {fd : FuncData}  (F : Fun K "numbers_of" "numbers_of" s_numbers_of f fd) (T : Txt K mg A)  (c_factor_of : Cal P w K mg base 3 "factor_of" Ph_factor_of []) (c_minus : Cal P w K mg base 3 "minus" Ph_minus []) (c_times : Cal P w K mg base 3 "times" Ph_times [])  : FnOk P w K mg base CX0 4 f fd ["weights"] (spD K (Ph_numbers_of)) := by
  refine okD F sc_numbers_of (fun ds S R Xs h => by (repeat (first | (obtain ⟨rfl, _⟩ := h; rfl) | (obtain ⟨_, h⟩ := h)))) (fun cdv AA outer s H E hr ds S R Xs h => ?_)
  obtain ⟨a, b, c, N, rfl, rfl, hw, ⟨hN3, hN, hpos, hend, hsz⟩, hR⟩ := h
  refine ⟨_, (pss_cons (ps_set (i := 1) sc_numbers_of.nd rfl (Or.inl rfl) (pc c_factor_of (hr.mono (by decide)) rfl (pa_cons (pv 0) pa_nil)))
  (pss_cons (ps_set (i := 2) sc_numbers_of.nd rfl (Or.inl rfl) (pe_lst (pa_cons (pe_glob (v := V.ref A.ONE) rfl T.g_ONE rfl) (pa_cons (pe_glob (v := V.ref A.ONE) rfl T.g_ONE rfl) pa_nil))))
  (pss_cons (ps_while PassesOwn.never (pt_cmpR op_gt (pe_ix (k_ixT K) (pe_ix (k_ixL K) (pv 2) (pe_un un_neg pe_int) (fun _ _ => rfl)) pe_int (fun _ _ => rfl)) pe_int (nomark _)) (pss_cons (ps_set (i := 3) sc_numbers_of.nd rfl (Or.inl rfl) (pe_glob (v := V.ref A.ONE) rfl T.g_ONE rfl))
  (pss_cons (ps_if (pt_cmpR op_eq (pe_op op_modN (pe_callB (k_len K) rfl T.b_len PySem.boot_len (pa_cons (pv 2) pa_nil)) pe_int) pe_int (nomark _)) (pss_one (ps_set (i := 3) sc_numbers_of.nd rfl (Or.inl rfl) (pv 1))) pss_nil)
  (pss_one (ps_expr (pe_bm PySem.F.plainAttrs_list PySem.F.slot_list_append PySem.F.type_list_append mt_append (pv 2) (pa_cons (pc c_minus (hr.mono (by decide)) rfl (pa_cons (pc c_times (hr.mono (by decide)) rfl (pa_cons (pe_ix (k_ixL K) (pv 2) (pe_un un_neg pe_int) (fun _ _ => rfl)) (pa_cons (pv 3) pa_nil))) (pa_cons (pe_ix (k_ixL K) (pv 2) (pe_un un_neg pe_int) (fun _ _ => rfl)) pa_nil))) pa_nil)))))))
  (pss_one (ps_ret (pv 2)))))), ?_⟩
  try dsimp only [cxOf]
  have zf : Sz 24 (factor a b c) := factor_sz hw
  refine s_seq (s_set (ed_call (ea_cons (ed_var rfl) ea_nil) ⟨a, b, c, rfl, rfl, hw, rfl, rfl⟩) (s_seq (s_setL (ds := (numbers (factor a b c) 2).map dR) (el_is (el_lst (ea_cons (ed_k (d := dR 1) T.d_ONE) (ea_cons (ed_k (d := dR 1) T.d_ONE) ea_nil))) rfl) fun x => s_seq ?_)))
  generalize factor a b c = q at *
  refine s_while (I := fun m env S => ∃ L o, 2 ≤ L ∧ L ≤ N ∧ m = N - L ∧ env = [some (dWts a b c), some (dR q), some (.v x), o] ∧ S = [(x, .l ((numbers q L).map dR))]) (m := N - 2) ⟨2, none, Nat.le_refl _, by omega, rfl, rfl, rfl⟩ ?_
  rintro m env S ⟨L, o, h2, hL, rfl, rfl, rfl⟩
  have dl : ((numbers q L).map dR).length = L := by rw [List.length_map, numbers_len]
  have i1 : atI ((numbers q L).map dR) (-1) = some (dR (numS q (L - 1))) := by
    have := atI_neg (xs := (numbers q L).map dR) (j := 1) (Nat.le_refl _) (by omega)
    rw [dl, List.getElem?_map, numbers_get (by omega)] at this; exact this
  have i2 : atI ((numbers q L).map dR) (-2) = some (dR (numS q (L - 2))) := by
    have := atI_neg (xs := (numbers q L).map dR) (j := 2) (by omega) (by omega)
    rw [dl, List.getElem?_map, numbers_get (by omega)] at this; exact this
  refine evt_t (et_test (ed_op (ed_op (ed_ixL (ed_var rfl) (lst_of (k := 0) rfl) (ed_un ed_c ru_I) i1) ed_c rd_num) ed_c rd_I0)) ?_
  by_cases hlt : L < N
  · have hp : 0 < numS q (L - 1) := hpos _ (by omega)
    have hdec : decide (0 < (numS q (L - 1)).num) = true := decide_eq_true (num_pos.mpr hp)
    rw [if_pos hdec]
    have z1 := hsz (L - 1) (by omega)
    have z2 := hsz (L - 2) (by omega)
    have z3 := hsz L hlt
    have eL : L = (L - 2) + 2 := by omega
    have estep : numS q L = numS q (L - 1) * (if L % 2 = 0 then q else 1) - numS q (L - 2) := by
      have e1 : (L - 2) + 1 = L - 1 := by omega
      have e2 : (L - 2) % 2 = L % 2 := by omega
      have := numS_step q (L - 2)
      rw [e1, e2, ← eL] at this; exact this
    have fin : ∀ (st : Rat), st = (if L % 2 = 0 then q else 1) → Sz 24 st → ∀ O : Out, O.nx [some (dWts a b c), some (dR q), some (.v x), some (dR st)] [(x, .l ((numbers q (L + 1)).map dR))] → EvS K E XF (tDrop (tBM K "list" rAppend (tVar 2) (tCons (tCall (spD K Ph_minus) [] E0 (tCons (tCall (spD K Ph_times) [] E0 (tCons (tOp (rIxL K) (tVar 2) (tUn (rU fun i => V.int (-i)) (tC (V.int 1)))) (tCons (tVar 3) tNil))) (tCons (tOp (rIxL K) (tVar 2) (tUn (rU fun i => V.int (-i)) (tC (V.int 2)))) tNil))) tNil))) [some (dWts a b c), some (dR q), some (.v x), some (dR st)] [(x, .l ((numbers q L).map dR))] O := by
      intro st est zst O hO
      have zm : Sz BB (numS q (L - 1) * st) := (Sz.mul z1 zst (by decide)).mono (by decide)
      have eS : numS q (L - 1) * st - numS q (L - 2) = numS q L := by rw [estep, est]
      refine s_app (ed_var rfl) (k := 0) rfl (ed_call (ea_cons (ed_call (ea_cons (ed_ixL (ed_var rfl) (lst_of (k := 0) rfl) (ed_un ed_c ru_I) i1) (ea_cons (ed_var rfl) ea_nil)) (ph_times z1.up (zst.mono (by decide)) zm)) (ea_cons (ed_ixL (ed_var rfl) (lst_of (k := 0) rfl) (ed_un ed_c ru_I) i2) ea_nil)) (ph_minus zm z2.up (by rw [eS]; exact z3.up))) (by rw [dl]; omega) ?_
      rw [eS]
      rw [numbers_snoc, List.map_append] at hO
      exact hO
    refine s_seq (s_set (ed_k (d := dR 1) T.d_ONE) (s_seq ?_))
    have hmod : ((L : Int).fmod 2) = ((L % 2 : Nat) : Int) := by rw [Int.fmod_eq_emod_of_nonneg _ (by decide)]; omega
    by_cases hpar : L % 2 = 0
    · refine s_ifT (et_test (ed_op (ed_op (ed_lenL (ed_var rfl) (lst_of (k := 0) rfl)) ed_c (rd_I (by decide))) ed_c (rd_eq rfl))) (decide_eq_true (by rw [dl, hmod, hpar]; rfl)) (s_set (ed_var rfl) (fin q (by rw [if_pos hpar]) zf _ ⟨N - (L + 1), by omega, L + 1, _, by omega, by omega, rfl, rfl, rfl⟩))
    · refine s_ifF (et_test (ed_op (ed_op (ed_lenL (ed_var rfl) (lst_of (k := 0) rfl)) ed_c (rd_I (by decide))) ed_c (rd_eq rfl))) (decide_eq_false (by rw [dl, hmod]; intro z; injection z with z; omega)) (s_next (fin 1 (by rw [if_neg hpar]) ⟨by decide, by decide⟩ _ ⟨N - (L + 1), by omega, L + 1, _, by omega, by omega, rfl, rfl, rfl⟩))
  · have eN : L = N := by omega
    subst eN
    have hdec : decide (0 < (numS q (L - 1)).num) = false := decide_eq_false fun z => by
      have := num_pos.mp z
      exact absurd hend (Rat.not_le.mpr this)
    rw [if_neg (by rw [hdec]; exact Bool.false_ne_true)]
    exact s_retK (F := []) (ed_var rfl) rfl (hR x)
theorem ok_beginning {f : Addr} {fd : FuncData}  (F : Fun K "beginning" "beginning" s_beginning f fd) (T : Txt K mg A)  (c_minus : Cal P w K mg base 3 "minus" Ph_minus [])  : FnOk P w K mg base CX0 4 f fd ["weights", "small"] (spD K (Ph_beginning)) := by
  refine okD F sc_beginning (fun ds S R Xs h => by (repeat (first | (obtain ⟨rfl, _⟩ := h; rfl) | (obtain ⟨_, h⟩ := h)))) (fun cdv AA outer s H E hr ds S R Xs h => ?_)
  obtain ⟨a, b, c, e, rfl, rfl, ⟨hb, ha, hc, hac⟩, he, hR⟩ := h
  refine ⟨_, (pss_cons (ps_asg (pv 0) (k_gtup K 3 rfl (pgs_cons (pg_name (i := 2) sc_beginning.nd rfl (Or.inl rfl)) (pgs_cons (pg_name (i := 3) sc_beginning.nd rfl (Or.inl rfl)) (pgs_cons (pg_name (i := 4) sc_beginning.nd rfl (Or.inl rfl)) pgs_nil)))))
  (pss_cons (ps_set (i := 5) sc_beginning.nd rfl (Or.inl rfl) (pc c_minus (hr.mono (by decide)) rfl (pa_cons (pe_tup (pa_cons pe_int (pa_cons pe_int pa_nil))) (pa_cons (pv 1) pa_nil))))
  (pss_cons (ps_if (pt_cmpR op_isN (pv 2) pe_non (nomark _)) (pss_one (ps_ret (pe_tup (pa_cons (pe_tup (pa_cons (pe_tup (pa_cons (pv 1) (pa_cons (pv 5) (pa_cons (pv 3) pa_nil)))) (pa_cons (pe_tup (pa_cons (pe_tup (pa_cons pe_int (pa_cons pe_int pa_nil))) (pa_cons (pe_tup (pa_cons (pe_un un_neg pe_int) (pa_cons pe_int pa_nil))) (pa_cons (pv 4) pa_nil)))) pa_nil))) (pa_cons (pe_tup (pa_cons (pe_tup (pa_cons (pe_tup (pa_cons pe_int (pa_cons pe_int pa_nil))) (pa_cons (pe_tup (pa_cons pe_int (pa_cons pe_int pa_nil))) pa_nil))) (pa_cons pe_non pa_nil))) pa_nil))))) pss_nil)
  (pss_cons (ps_if (pt_cmpR op_isN (pv 4) pe_non (nomark _)) (pss_one (ps_ret (pe_tup (pa_cons (pe_tup (pa_cons (pe_tup (pa_cons (pe_tup (pa_cons (pe_un un_neg pe_int) (pa_cons pe_int pa_nil))) (pa_cons (pe_glob (v := V.ref A.ONE) rfl T.g_ONE rfl) (pa_cons (pv 2) pa_nil)))) (pa_cons (pe_tup (pa_cons (pv 5) (pa_cons (pv 1) (pa_cons (pv 3) pa_nil)))) pa_nil))) (pa_cons (pe_tup (pa_cons pe_non (pa_cons (pe_tup (pa_cons (pe_tup (pa_cons pe_int (pa_cons pe_int pa_nil))) (pa_cons (pe_tup (pa_cons pe_int (pa_cons pe_int pa_nil))) pa_nil))) pa_nil))) pa_nil))))) pss_nil)
  (pss_cons (ps_set (i := 6) sc_beginning.nd rfl (Or.inl rfl) (pe_tup (pa_cons (pe_tup (pa_cons (pv 5) (pa_cons (pv 1) (pa_cons (pv 2) pa_nil)))) (pa_cons (pe_tup (pa_cons (pe_tup (pa_cons pe_int (pa_cons pe_int pa_nil))) (pa_cons (pe_tup (pa_cons pe_int (pa_cons pe_int pa_nil))) (pa_cons (pv 3) pa_nil)))) (pa_cons (pe_tup (pa_cons (pe_tup (pa_cons pe_int (pa_cons pe_int pa_nil))) (pa_cons (pe_tup (pa_cons (pe_un un_neg pe_int) (pa_cons pe_int pa_nil))) (pa_cons (pv 4) pa_nil)))) pa_nil)))))
  (pss_one (ps_ret (pe_tup (pa_cons (pv 6) (pa_cons (pe_tup (pa_cons pe_non (pa_cons pe_non pa_nil))) pa_nil)))))))))), ?_⟩
  try dsimp only [cxOf]
  have z0 : Sz BB (0 : Rat) := ⟨by show 0 < 2 ^ BB; exact Nat.pow_pos (by decide), by show 1 < 2 ^ BB; exact Nat.one_lt_two_pow (by decide)⟩
  have zs : Sz BB (0 - e) := by rw [rat_zero_sub]; exact (Sz.neg he).up
  refine s_seq (s_asg (ed_var rfl) (eg_tup (egs_cons eg_name (egs_cons eg_name (egs_cons eg_name egs_nil)))) (s_seq (s_set (ed_call (ea_cons (ed_is (ed_tup (ea_cons ed_c (ea_cons ed_c ea_nil))) (rfl : _ = dR 0)) (ea_cons (ed_var rfl) ea_nil)) (ph_minus z0 he.up zs)) (s_seq ?_))))
  have t1 : ∀ env S, ED K (tTup (tCons (tUn (rU fun i => V.int (-i)) (tC (V.int 1))) (tCons (tC (V.int 1)) tNil))) env S (dR (-1)) := fun env S => ed_is (ed_tup (ea_cons (ed_un ed_c ru_I) (ea_cons ed_c ea_nil))) rfl
  have t3 : ∀ env S, ED K (tTup (tCons (tUn (rU fun i => V.int (-i)) (tC (V.int 3))) (tCons (tC (V.int 1)) tNil))) env S (dR (-3)) := fun env S => ed_is (ed_tup (ea_cons (ed_un ed_c ru_I) (ea_cons ed_c ea_nil))) rfl
  have p3 : ∀ env S, ED K (tTup (tCons (tC (V.int 3)) (tCons (tC (V.int 1)) tNil))) env S (dR 3) := fun env S => ed_is (ed_tup (ea_cons ed_c (ea_cons ed_c ea_nil))) rfl
  have p0 : ∀ env S, ED K (tTup (tCons (tC (V.int 0)) (tCons (tC (V.int 1)) tNil))) env S (dR 0) := fun env S => ed_is (ed_tup (ea_cons ed_c (ea_cons ed_c ea_nil))) rfl
  cases a with
  | none =>
    cases c with
    | none => simp at hac
    | some c =>
      exact s_ifT (et_test (ed_op (ed_var rfl) ed_c rd_isN)) rfl (s_ret (ed_tup (ea_cons (ed_tup (ea_cons (ed_tup (ea_cons (ed_var rfl) (ea_cons (ed_var rfl) (ea_cons (ed_var rfl) ea_nil)))) (ea_cons (ed_tup (ea_cons (p3 _ _) (ea_cons (t1 _ _) (ea_cons (ed_var rfl) ea_nil)))) ea_nil))) (ea_cons (ed_tup (ea_cons (ed_tup (ea_cons (p0 _ _) (ea_cons (p0 _ _) ea_nil))) (ea_cons ed_c ea_nil))) ea_nil))) hR)
  | some a =>
    refine s_ifF (et_test (ed_op (ed_var rfl) ed_c rd_isN)) rfl (s_next (s_seq ?_))
    cases c with
    | none =>
      exact s_ifT (et_test (ed_op (ed_var rfl) ed_c rd_isN)) rfl (s_ret (ed_tup (ea_cons (ed_tup (ea_cons (ed_tup (ea_cons (t3 _ _) (ea_cons (ed_k (d := dR 1) T.d_ONE) (ea_cons (ed_var rfl) ea_nil)))) (ea_cons (ed_tup (ea_cons (ed_var rfl) (ea_cons (ed_var rfl) (ea_cons (ed_var rfl) ea_nil)))) ea_nil))) (ea_cons (ed_tup (ea_cons ed_c (ea_cons (ed_tup (ea_cons (p0 _ _) (ea_cons (p0 _ _) ea_nil))) ea_nil))) ea_nil))) hR)
    | some c =>
      exact s_ifF (et_test (ed_op (ed_var rfl) ed_c rd_isN)) rfl (s_next (s_seq (s_set (ed_tup (ea_cons (ed_tup (ea_cons (ed_var rfl) (ea_cons (ed_var rfl) (ea_cons (ed_var rfl) ea_nil)))) (ea_cons (ed_tup (ea_cons (p0 _ _) (ea_cons (p0 _ _) (ea_cons (ed_var rfl) ea_nil)))) (ea_cons (ed_tup (ea_cons (p3 _ _) (ea_cons (t1 _ _) (ea_cons (ed_var rfl) ea_nil)))) ea_nil)))) (s_ret (ed_tup (ea_cons (ed_var rfl) (ea_cons (ed_tup (ea_cons ed_c (ea_cons ed_c ea_nil))) ea_nil))) hR))))
theorem ok_groups_from {f : Addr} {fd : FuncData}  (F : Fun K "groups_from" "groups_from" s_groups_from f fd) (T : Txt K mg A)  (c_ended : Cal P w K mg base 10 "ended" Ph_ended [])  : FnOk P w K mg base CX0 11 f fd ["row", "walls"] (spD K (Ph_groups_from)) := by
  refine okD F sc_groups_from (fun ds S R Xs h => by (repeat (first | (obtain ⟨rfl, _⟩ := h; rfl) | (obtain ⟨_, h⟩ := h)))) (fun cdv AA outer s H E hr ds S R Xs h => ?_)
  obtain ⟨r, w, n, s', rfl, rfl, hn, hw, hR⟩ := h
  refine ⟨_, (pss_one (ps_try_thru0 (pss_one (ps_ret (pe_callB (k_len K) rfl T.b_len PySem.boot_len (pa_cons (pe_ix (k_ixT K) (pc c_ended (hr.mono (by decide)) rfl (pa_cons (pv 0) (pa_cons (pv 1) pa_nil))) pe_int (fun _ _ => rfl)) pa_nil)))))), ?_⟩
  try dsimp only [cxOf]
  have el : ((s'.cs.length : Nat) : Int) = (((s'.cs.map dCom).length : Nat) : Int) := by rw [List.length_map]
  rw [el] at hR
  exact s_retE (ev_let (ev_lenE (ev_op (ev_call0 (eva_d (ea_cons (ed_var rfl) (ea_cons (ed_var rfl) ea_nil)) ⟨[], [], rfl, r, w, s', n, rfl, rfl, hn, hw, fun c => ev_d ed_c ⟨_, rd_ix0, _, lst_of (k := 0) rfl, [_], [], rfl, hR⟩⟩)))))
theorem ok_most_of {f : Addr} {fd : FuncData}  (F : Fun K "most_of" "most_of" s_most_of f fd) (T : Txt K mg A)  (c_beginning : Cal P w K mg base 4 "beginning" Ph_beginning []) (c_groups_from : Cal P w K mg base 11 "groups_from" Ph_groups_from []) (c_look_at_weights : Cal P w K mg base 3 "look_at_weights" Ph_look_at_weights []) (c_numbers_of : Cal P w K mg base 4 "numbers_of" Ph_numbers_of []) (c_ratio : Cal P w K mg base 2 "ratio" Ph_ratio [])  : FnOk P w K mg base CX0 12 f fd ["weights"] (spD K (Ph_most_of)) := by
  refine okD F sc_most_of (fun ds S R Xs h => by (repeat (first | (obtain ⟨rfl, _⟩ := h; rfl) | (obtain ⟨_, h⟩ := h)))) (fun cdv AA outer s H E hr ds S R Xs h => ?_)
  obtain ⟨a, b, c, N, J, rfl, rfl, hw, hN, ⟨hJ, hM⟩, hR⟩ := h
  refine ⟨_, (pss_cons (ps_expr (pc c_look_at_weights (hr.mono (by decide)) rfl (pa_cons (pv 0) pa_nil)))
  (pss_cons (ps_set (i := 1) sc_most_of.nd rfl (Or.inl rfl) (pc c_numbers_of (hr.mono (by decide)) rfl (pa_cons (pv 0) pa_nil)))
  (pss_cons (ps_set (i := 2) sc_most_of.nd rfl (Or.inl rfl) pe_int)
  (pss_cons (ps_asg (pc c_beginning (hr.mono (by decide)) rfl (pa_cons (pv 0) (pa_cons (pc c_ratio (hr.mono (by decide)) rfl (pa_cons pe_int (pa_cons (pv 2) pa_nil))) pa_nil))) (k_gtup K 2 rfl (pgs_cons (pg_name (i := 3) sc_most_of.nd rfl (Or.inl rfl)) (pgs_cons (pg_name (i := 4) sc_most_of.nd rfl (Or.inl rfl)) pgs_nil))))
  (pss_cons (ps_while PassesOwn.never (pt_cmpR op_ne (pc c_groups_from (hr.mono (by decide)) rfl (pa_cons (pv 3) (pa_cons (pv 4) pa_nil))) (pe_callB (k_len K) rfl T.b_len PySem.boot_len (pa_cons (pv 1) pa_nil)) (nomark _)) (pss_cons (ps_set (i := 2) sc_most_of.nd rfl (Or.inl rfl) (pe_op op_mulW (pv 2) (pv 2)))
  (pss_one (ps_asg (pc c_beginning (hr.mono (by decide)) rfl (pa_cons (pv 0) (pa_cons (pc c_ratio (hr.mono (by decide)) rfl (pa_cons pe_int (pa_cons (pv 2) pa_nil))) pa_nil))) (k_gtup K 2 rfl (pgs_cons (pg_name (i := 3) sc_most_of.nd rfl (Or.inl rfl)) (pgs_cons (pg_name (i := 4) sc_most_of.nd rfl (Or.inl rfl)) pgs_nil)))))))
  (pss_one (ps_ret (pe_tup (pa_cons (pe_callB (k_len K) rfl T.b_len PySem.boot_len (pa_cons (pv 1) pa_nil)) (pa_cons (pv 1) (pa_cons (pv 3) (pa_cons (pv 4) pa_nil)))))))))))), ?_⟩
  try dsimp only [cxOf]
  refine s_seq (s_dropE (ev_call0 (eva_d (ea_cons (ed_var rfl) ea_nil) ⟨[], [], rfl, a, b, c, rfl, rfl, hw, ?_⟩)))
  refine s_seq (s_setE (ev_call0 (eva_d (ea_cons (ed_var rfl) ea_nil) ⟨[], [], rfl, a, b, c, N, rfl, rfl, hw, hN, fun x => ?_⟩)))
  have dl : ((numbers (factor a b c) N).map dR).length = N := by rw [List.length_map, numbers_len]
  have SBe : SB = 2100 := rfl
  have es : ∀ j, j ≤ J → Sz SB (epsOf j) := fun j h => (eps_sz (Nat.le_trans h hJ)).mono (by decide)
  refine s_seq (s_set (d := dI (bott 0)) (ed_is ed_c rfl) (s_seq (s_asg (ed_call (ea_cons (ed_var rfl) (ea_cons (ed_call (ea_cons ed_c (ea_cons (ed_var rfl) ea_nil)) (ph_eps (j := 0) (by decide))) ea_nil)) (ph_beginning hw (es 0 (Nat.zero_le _)))) (eg_tup (egs_cons eg_name (egs_cons eg_name egs_nil))) (s_seq ?_))))
  refine s_while (I := fun m env S => ∃ j, j ≤ J ∧ m = J - j ∧ env = [some (dWts a b c), some (.v x), some (dI (bott j)), some (dRow (startOf a b c (epsOf j)).1), some (dWls (startOf a b c (epsOf j)).2)] ∧ S = [(x, .l ((numbers (factor a b c) N).map dR))]) (m := J) ⟨0, Nat.zero_le _, rfl, rfl, rfl⟩ ?_
  rintro m env S ⟨j, hj, rfl, rfl, rfl⟩
  obtain ⟨n, s', hwk, hcount⟩ := hM j hj
  refine evt_test (ev_op (ev_call0 (eva_d (ea_cons (ed_var rfl) (ea_cons (ed_var rfl) ea_nil)) ⟨[], _, rfl, _, _, n, s', rfl, rfl, start_still a b c (epsOf j), hwk, ev_d (ed_lenL (ed_var rfl) (lst_of (k := 0) rfl)) ⟨_, rd_ne rfl, _, rfl, ?_⟩⟩)))
  rw [dl]
  by_cases e : j = J
  · have hc := hcount.mpr e
    rw [hc, if_neg (by simp)]
    subst e
    exact s_retK (F := []) (ed_tup (ea_cons (ed_is (ed_lenL (ed_var rfl) (lst_of (k := 0) rfl)) (by rw [dl])) (ea_cons (ed_var rfl) (ea_cons (ed_var rfl) (ea_cons (ed_var rfl) ea_nil))))) rfl (hR x)
  · have hc : ¬ s'.cs.length = N := fun z => e (hcount.mp z)
    have hj2 : j + 1 ≤ J := by omega
    rw [if_pos (by rw [decide_eq_false (by intro z; injection z with z; omega)]; rfl)]
    exact s_seq (s_set (d := dI (bott (j + 1))) (ed_is (ed_op (ed_var rfl) (ed_var rfl) (rd_I (bott_mul (Nat.le_trans hj hJ)))) (by rw [bott_succ])) (s_asg (ed_call (ea_cons (ed_var rfl) (ea_cons (ed_call (ea_cons ed_c (ea_cons (ed_var rfl) ea_nil)) (ph_eps (j := j + 1) (Nat.le_trans hj2 hJ))) ea_nil)) (ph_beginning hw (es _ hj2))) (eg_tup (egs_cons eg_name (egs_cons eg_name egs_nil))) ⟨J - (j + 1), by omega, j + 1, hj2, rfl, rfl, rfl⟩))
end
end PG
namespace PG
open PySem L2 RZ DL
section
variable {P : Program} {w : World} {K : PySem.W.Frag} {mg : Str → Option Value} {base : Heap} {A : Adr}
theorem ok__law_cell {f : Addr} {fd : FuncData}  (F : Fun K "_law_cell" "_law_cell" s__law_cell f fd) (T : Txt K mg A)    : FnOk P w K mg base CX0 1 f fd ["script", "k"] (spD K (Ph__law_cell)) := by
  refine okD F sc__law_cell (fun ds S R Xs h => by (repeat (first | (obtain ⟨rfl, _⟩ := h; rfl) | (obtain ⟨_, h⟩ := h)))) (fun cdv AA outer s H E hr ds S R Xs h => ?_)
  obtain ⟨ns, k, rfl, rfl, hR⟩ := h
  refine ⟨_, (pss_cons (ps_if (pt_cmpR op_lt (pv 1) (pe_callB (k_len K) rfl T.b_len PySem.boot_len (pa_cons (pv 0) pa_nil)) (nomark _)) (pss_one (ps_ret (pe_ix (k_ixL K) (pv 0) (pv 1) (fun _ _ => rfl)))) pss_nil)
  (pss_one (ps_ret pe_int))), ?_⟩
  try dsimp only [cxOf]
  have dl : (ns.map dI).length = ns.length := List.length_map ..
  by_cases hk : k < ns.length
  · refine s_seq (s_ifT (et_test (ed_op (ed_var rfl) (ed_lenL (ed_var rfl) (Or.inl rfl)) rd_I0)) (decide_eq_true (by rw [dl]; omega)) (s_ret (ed_ixL (d := dI (lcell ns k)) (ed_var rfl) (Or.inl rfl) (ed_var rfl) ?_) hR))
    rw [atI_at (by rw [dl]; exact hk), List.getElem?_map, List.getElem?_eq_getElem hk]
    unfold lcell
    rw [List.getElem?_eq_getElem hk]; rfl
  · refine s_seq (s_ifF (et_test (ed_op (ed_var rfl) (ed_lenL (ed_var rfl) (Or.inl rfl)) rd_I0)) (decide_eq_false (by rw [dl]; omega)) (s_next (s_ret ed_c ?_)))
    unfold lcell at hR
    rw [List.getElem?_eq_none (by omega)] at hR
    exact hR
theorem ok__law_pool {f : Addr} {fd : FuncData}  (F : Fun K "_law_pool" "_law_pool" s__law_pool f fd) (T : Txt K mg A)    : FnOk P w K mg base CX0 1 f fd ["cell"] (spD K (Ph__law_pool)) := by
  refine okD F sc__law_pool (fun ds S R Xs h => by (repeat (first | (obtain ⟨rfl, _⟩ := h; rfl) | (obtain ⟨_, h⟩ := h)))) (fun cdv AA outer s H E hr ds S R Xs h => ?_)
  obtain ⟨c, rfl, rfl, hR⟩ := h
  refine ⟨_, (pss_one (ps_ret (pe_lst (pa_cons (pe_callB (call_max2 rfl) rfl T.b_max PyProof.Rows.boot_max (pa_cons pe_int (pa_cons (pe_op op_sub (pv 0) (pe_op op_pow pe_int pe_int)) pa_nil))) (pa_cons (pe_op op_modN (pv 0) (pe_op op_pow pe_int pe_int)) (pa_cons pe_int pa_nil)))))), ?_⟩
  try dsimp only [cxOf]
  refine s_retL (el_lst (ea_cons (ed_cb (ea_cons ed_c (ea_cons (ed_op (ed_var rfl) (ed_op ed_c ed_c (rd_I ⟨by decide, by decide, by decide⟩)) rd_I0) ea_nil)) rc_max2) (ea_cons (ed_op (ed_var rfl) (ed_op ed_c ed_c (rd_I ⟨by decide, by decide, by decide⟩)) (rd_I (by decide))) (ea_cons ed_c ea_nil))) (by simp)) fun x => hR x _ _ ?_ ?_ ?_
  · split <;> omega
  · exact Int.fmod_nonneg_of_pos _ (by decide)
  · exact Int.fmod_lt_of_pos _ (by decide)
theorem ok__law_next {f : Addr} {fd : FuncData}  (F : Fun K "_law_next" "_law_next" s__law_next f fd) (T : Txt K mg A)    : FnOk P w K mg base CX0 1 f fd ["pool", "base"] (spD K (Ph__law_next)) := by
  refine okD F sc__law_next (fun ds S R Xs h => by (repeat (first | (obtain ⟨rfl, _⟩ := h; rfl) | (obtain ⟨_, h⟩ := h)))) (fun cdv AA outer s H E hr ds S R Xs h => ?_)
  obtain ⟨x, p0, p1, p2, base, rfl, rfl, h0, ⟨h1, h1'⟩, ⟨h2, h2'⟩, ⟨hb, hb'⟩, hR⟩ := h
  refine ⟨_, (pss_cons (ps_if (pt_cmpR op_gt (pe_ix (k_ixL K) (pv 0) pe_int (fun _ _ => rfl)) pe_int (nomark _)) (pss_cons (ps_set (i := 2) sc__law_next.nd rfl (Or.inl rfl) (pe_op op_modN (pe_ix (k_ixL K) (pv 0) pe_int (fun _ _ => rfl)) (pv 1)))
  (pss_cons (ps_asg (pe_op op_fdivP (pe_ix (k_ixL K) (pv 0) pe_int (fun _ _ => rfl)) (pv 1)) (pg_sub (pv 0) pe_int set_list))
  (pss_one (ps_ret (pv 2))))) pss_nil)
  (pss_cons (ps_asg (pe_op op_add (pe_ix (k_ixL K) (pv 0) pe_int (fun _ _ => rfl)) pe_int) (pg_sub (pv 0) pe_int set_list))
  (pss_cons (ps_set (i := 3) sc__law_next.nd rfl (Or.inl rfl) (pe_op op_modN (pe_op op_add (pe_ix (k_ixL K) (pv 0) pe_int (fun _ _ => rfl)) (pe_op op_mulW pe_int (pe_ix (k_ixL K) (pv 0) pe_int (fun _ _ => rfl)))) pe_int))
  (pss_cons (ps_set (i := 4) sc__law_next.nd rfl (Or.inl rfl) (pe_op op_modN (pe_op op_mulW (pe_op op_add (pv 3) pe_int) (pe_op op_add (pv 3) pe_int)) pe_int))
  (pss_one (ps_ret (pe_op op_modN (pe_op op_fdivP (pe_op op_modN (pe_op op_mulW (pv 4) (pv 4)) pe_int) pe_int) (pv 1)))))))), ?_⟩
  try dsimp only [cxOf]
  have ix : ∀ (q0 q1 q2 : Int) (i : Nat) (d : D), (dPool q0 q1 q2)[i]? = some d → atI (dPool q0 q1 q2) (i : Int) = some d := fun q0 q1 q2 i d h => by
    rw [atI_at (List.getElem?_eq_some_iff.mp h).1]; exact h
  by_cases hp : 0 < p0
  · refine s_seq (s_ifT (et_test (ed_op (ed_ixL (ed_var rfl) (lst_of (k := 0) rfl) ed_c (ix p0 p1 p2 0 _ rfl)) ed_c rd_I0)) (decide_eq_true hp) ?_)
    refine s_seq (s_set (ed_op (ed_ixL (ed_var rfl) (lst_of (k := 0) rfl) ed_c (ix p0 p1 p2 0 _ rfl)) (ed_var rfl) (rd_I (by omega))) (s_seq (s_setitem (k := 0) (j := 0) (ed_op (ed_ixL (ed_var rfl) (lst_of (k := 0) rfl) ed_c (ix p0 p1 p2 0 _ rfl)) (ed_var rfl) (rd_I (small_div hb (by omega)))) (ed_var rfl) rfl ed_c rfl (s_ret (ed_var rfl) (hR _ _ _ (Int.fmod_nonneg_of_pos _ hb) (Int.fmod_lt_of_pos _ hb) ?_ h2 (by omega))))))
    rw [Int.fdiv_eq_ediv_of_nonneg _ (by omega)]
    exact Int.ediv_nonneg h0 (by omega)
  · refine s_seq (s_ifF (et_test (ed_op (ed_ixL (ed_var rfl) (lst_of (k := 0) rfl) ed_c (ix p0 p1 p2 0 _ rfl)) ed_c rd_I0)) (decide_eq_false hp) (s_next ?_))
    refine s_seq (s_setitem (k := 0) (j := 2) (ed_op (ed_ixL (ed_var rfl) (lst_of (k := 0) rfl) ed_c (ix p0 p1 p2 2 _ rfl)) ed_c rd_I0) (ed_var rfl) rfl ed_c rfl ?_)
    refine (?_ : EvS K E XF _ _ [(x, .l (dPool p0 p1 (p2 + 1)))] _)
    refine s_seq (s_set (ed_op (ed_op (ed_ixL (ed_var rfl) (lst_of (k := 0) rfl) ed_c (ix p0 p1 (p2 + 1) 1 _ rfl)) (ed_op ed_c (ed_ixL (ed_var rfl) (lst_of (k := 0) rfl) ed_c (ix p0 p1 (p2 + 1) 2 _ rfl)) (rd_I (wide_mul (a := 13) (b := 20) (by decide) (by omega) (by decide) (by decide) (by decide)))) rd_I0) ed_c (rd_I (by decide))) ?_)
    have m0 := Int.fmod_nonneg_of_pos (p1 + 7919 * (p2 + 1)) (b := 1000000007) (by decide)
    have m1 := Int.fmod_lt_of_pos (p1 + 7919 * (p2 + 1)) (b := 1000000007) (by decide)
    generalize (p1 + 7919 * (p2 + 1)).fmod 1000000007 = mixed at *
    refine s_seq (s_set (ed_op (ed_op (ed_op (ed_var rfl) ed_c rd_I0) (ed_op (ed_var rfl) ed_c rd_I0) (rd_I (wide_mul (a := 31) (b := 31) (by omega) (by omega) (by decide) (by decide) (by decide)))) ed_c (rd_I (by decide))) ?_)
    have s0 := Int.fmod_nonneg_of_pos ((mixed + 11) * (mixed + 48271)) (b := 998244353) (by decide)
    have s1 := Int.fmod_lt_of_pos ((mixed + 11) * (mixed + 48271)) (b := 998244353) (by decide)
    generalize ((mixed + 11) * (mixed + 48271)).fmod 998244353 = stir at *
    exact s_ret (ed_op (ed_op (ed_op (ed_op (ed_var rfl) (ed_var rfl) (rd_I (wide_mul (a := 31) (b := 31) (by omega) (by omega) (by decide) (by decide) (by decide)))) ed_c (rd_I (by decide))) ed_c (rd_I (small_div (by decide) (by decide)))) (ed_var rfl) (rd_I (by omega))) (hR _ _ _ (Int.fmod_nonneg_of_pos _ hb) (Int.fmod_lt_of_pos _ hb) h0 (by omega) (by omega))
theorem ok__law_common {f : Addr} {fd : FuncData}  (F : Fun K "_law_common" "_law_common" s__law_common f fd) (T : Txt K mg A)    : FnOk P w K mg base CX0 1 f fd ["one", "other"] (spD K (Ph__law_common)) := by
  refine okD F sc__law_common (fun ds S R Xs h => by (repeat (first | (obtain ⟨rfl, _⟩ := h; rfl) | (obtain ⟨_, h⟩ := h)))) (fun cdv AA outer s H E hr ds S R Xs h => ?_)
  obtain ⟨i, j, rfl, rfl, hi, hj, hR⟩ := h
  refine ⟨_, (pss_cons (ps_while PassesOwn.never (pt_cmpR op_ne (pv 1) pe_int (nomark _)) (pss_one (ps_par (i := 0) (j := 1) (by rfl) sc__law_common.nd rfl rfl (by decide) rfl rfl (pa_cons (pv 1) (pa_cons (pe_op op_modN (pv 0) (pv 1)) pa_nil)) (by rfl))))
  (pss_one (ps_ret (pv 0)))), ?_⟩
  try dsimp only [cxOf]
  refine s_seq ?_
  refine s_while (I := fun m env S => ∃ a b : Int, 0 ≤ a ∧ 0 ≤ b ∧ m = b.natAbs ∧ env = [some (dI a), some (dI b)] ∧ S = [] ∧ Int.gcd a b = Int.gcd i j) (m := j.natAbs) ⟨i, j, hi, hj, rfl, rfl, rfl, rfl⟩ ?_
  rintro m env S ⟨a, b, ha, hb0, rfl, rfl, rfl, hg⟩
  refine evt_t (et_test (ed_op (ed_var rfl) ed_c (rd_ne rfl))) ?_
  by_cases hb : b = 0
  · subst hb
    rw [if_neg (by simp)]
    refine s_ret (ed_var rfl) ?_
    rw [Int.gcd_zero_right] at hg
    have e : a = ((Int.gcd i j : Nat) : Int) := by rw [← hg]; omega
    rw [e]; exact hR
  · rw [if_pos (by simp [hb])]
    refine s_par (ea_cons (ed_var rfl) (ea_cons (ed_op (ed_var rfl) (ed_var rfl) (rd_I hb)) ea_nil)) ⟨(a.fmod b).natAbs, fmod_small a b hb, b, a.fmod b, hb0, Int.fmod_nonneg_of_pos _ (by omega), rfl, rfl, rfl, by rw [gcd_fmod]; exact hg⟩
theorem ok__law_low {f : Addr} {fd : FuncData}  (F : Fun K "_law_low" "_law_low" s__law_low f fd) (T : Txt K mg A)  (c__law_common : Cal P w K mg base 1 "_law_common" Ph__law_common [])  : FnOk P w K mg base CX0 2 f fd ["top", "bottom"] (spD K (Ph__law_low)) := by
  refine okD F sc__law_low (fun ds S R Xs h => by (repeat (first | (obtain ⟨rfl, _⟩ := h; rfl) | (obtain ⟨_, h⟩ := h)))) (fun cdv AA outer s H E hr ds S R Xs h => ?_)
  obtain ⟨i, j, rfl, rfl, h0, hs, hR⟩ := h
  refine ⟨_, (pss_cons (ps_if (pt_cmpR op_lt (pv 1) pe_int (nomark _)) (pss_cons (ps_set (i := 0) sc__law_low.nd rfl (Or.inl rfl) (pe_op op_sub pe_int (pv 0)))
  (pss_one (ps_set (i := 1) sc__law_low.nd rfl (Or.inl rfl) (pe_op op_sub pe_int (pv 1))))) pss_nil)
  (pss_cons (ps_set (i := 2) sc__law_low.nd rfl (Or.inl rfl) (pc c__law_common (hr.mono (by decide)) rfl (pa_cons (pe_callB call_abs rfl T.b_abs PyProof.Rows.boot_abs (pa_cons (pv 0) pa_nil)) (pa_cons (pv 1) pa_nil))))
  (pss_one (ps_ret (pe_tup (pa_cons (pe_op op_fdivP (pv 0) (pv 2)) (pa_cons (pe_op op_fdivP (pv 1) (pv 2)) pa_nil))))))), ?_⟩
  try dsimp only [cxOf]
  have fin : ∀ (t b : Int) (o : Option D), 0 < b → Rat.divInt t b = Rat.divInt i j → EvS K E XF (tSeq (tAsg (tCall (spD K Ph__law_common) [] E0 (tCons (tCB (fun xs H Q => ∃ i, xs = [.int i] ∧ Q (.int (if i < 0 then -i else i)) H) (tCons (tVar 0) tNil)) (tCons (tVar 1) tNil))) (gName 2)) (tRet (tTup (tCons (tOp (rI CDivP fun i j => V.int (i.fdiv j)) (tVar 0) (tVar 2)) (tCons (tOp (rI CDivP fun i j => V.int (i.fdiv j)) (tVar 1) (tVar 2)) tNil))))) [some (dI t), some (dI b), o] [] (outR R) := by
    intro t b o hb e
    have eg : Int.gcd (if t < 0 then -t else t) b = Int.gcd t b := by
      split
      · rw [Int.neg_gcd]
      · rfl
    have eb : byOf t b = (Int.gcd t b : Int) := by unfold byOf; rw [if_neg (by omega)]
    have hb0 : b ≠ 0 := by omega
    rw [← e] at hs hR
    have c1 : CDivP t (Int.gcd t b : Int) := by rw [← eb]; exact ⟨byOf_ne hb0, noPy_top hb0 hs⟩
    have c2 : CDivP b (Int.gcd t b : Int) := by rw [← eb]; exact ⟨byOf_ne hb0, noPy_bot hb0 hs⟩
    refine s_seq (s_set (d := dI (Int.gcd t b : Int)) (ed_is (ed_call (ea_cons (ed_cb (ea_cons (ed_var rfl) ea_nil) rc_abs) (ea_cons (ed_var rfl) ea_nil)) (ph_common (by split <;> omega) (by omega))) (by rw [eg])) (s_ret (ed_tup (ea_cons (ed_op (ed_var rfl) (ed_var rfl) (rd_I c1)) (ea_cons (ed_op (ed_var rfl) (ed_var rfl) (rd_I c2)) ea_nil))) ?_))
    have e1 := top_by (t := t) hb0
    have e2 := bot_by (t := t) hb0
    rw [eb] at e1 e2
    rw [e1, e2]; exact hR
  by_cases hj : j < 0
  · refine s_seq (s_ifT (et_test (ed_op (ed_var rfl) ed_c rd_I0)) (decide_eq_true hj) (s_seq (s_set (ed_op ed_c (ed_var rfl) rd_I0) (s_set (ed_op ed_c (ed_var rfl) rd_I0) (fin (0 - i) (0 - j) _ (by omega) ?_)))))
    rw [Int.zero_sub, Int.zero_sub, Rat.neg_divInt_neg]
  · exact s_seq (s_ifF (et_test (ed_op (ed_var rfl) ed_c rd_I0)) (decide_eq_false hj) (s_next (fin i j _ (by omega) rfl)))
theorem ok__law_gap {f : Addr} {fd : FuncData}  (F : Fun K "_law_gap" "_law_gap" s__law_gap f fd) (T : Txt K mg A)  (c__law_low : Cal P w K mg base 2 "_law_low" Ph__law_low [])  : FnOk P w K mg base CX0 3 f fd ["one", "other"] (spD K (Ph__law_gap)) := by
  refine okD F sc__law_gap (fun ds S R Xs h => by (repeat (first | (obtain ⟨rfl, _⟩ := h; rfl) | (obtain ⟨_, h⟩ := h)))) (fun cdv AA outer s H E hr ds S R Xs h => ?_)
  obtain ⟨p, q, rfl, rfl, hp, hq, hpq, hR⟩ := h
  refine ⟨_, (pss_one (ps_ret (pc c__law_low (hr.mono (by decide)) rfl (pa_cons (pe_op op_sub (pe_op op_mulW (pe_ix (k_ixT K) (pv 0) pe_int (fun _ _ => rfl)) (pe_ix (k_ixT K) (pv 1) pe_int (fun _ _ => rfl))) (pe_op op_mulW (pe_ix (k_ixT K) (pv 1) pe_int (fun _ _ => rfl)) (pe_ix (k_ixT K) (pv 0) pe_int (fun _ _ => rfl)))) (pa_cons (pe_op op_mulW (pe_ix (k_ixT K) (pv 0) pe_int (fun _ _ => rfl)) (pe_ix (k_ixT K) (pv 1) pe_int (fun _ _ => rfl))) pa_nil))))), ?_⟩
  try dsimp only [cxOf]
  rw [sub_as] at hpq hR
  exact s_ret (ed_call (ea_cons (ed_op (ed_op (ed_op (ed_var rfl) ed_c rd_num) (ed_op (ed_var rfl) ed_c rd_den) (rd_I (mulw hp.1 hq.2))) (ed_op (ed_op (ed_var rfl) ed_c rd_num) (ed_op (ed_var rfl) ed_c rd_den) (rd_I (mulw hq.1 hp.2))) rd_I0) (ea_cons (ed_op (ed_op (ed_var rfl) ed_c rd_den) (ed_op (ed_var rfl) ed_c rd_den) (rd_I (mulw hp.2 hq.2))) ea_nil)) (ph_low (den_ne p q) hpq)) hR
theorem ok__law_by {f : Addr} {fd : FuncData}  (F : Fun K "_law_by" "_law_by" s__law_by f fd) (T : Txt K mg A)  (c__law_low : Cal P w K mg base 2 "_law_low" Ph__law_low [])  : FnOk P w K mg base CX0 3 f fd ["one", "other"] (spD K (Ph__law_by)) := by
  refine okD F sc__law_by (fun ds S R Xs h => by (repeat (first | (obtain ⟨rfl, _⟩ := h; rfl) | (obtain ⟨_, h⟩ := h)))) (fun cdv AA outer s H E hr ds S R Xs h => ?_)
  obtain ⟨p, q, rfl, rfl, hp, hq, hpq, hR⟩ := h
  refine ⟨_, (pss_one (ps_ret (pc c__law_low (hr.mono (by decide)) rfl (pa_cons (pe_op op_mulW (pe_ix (k_ixT K) (pv 0) pe_int (fun _ _ => rfl)) (pe_ix (k_ixT K) (pv 1) pe_int (fun _ _ => rfl))) (pa_cons (pe_op op_mulW (pe_ix (k_ixT K) (pv 0) pe_int (fun _ _ => rfl)) (pe_ix (k_ixT K) (pv 1) pe_int (fun _ _ => rfl))) pa_nil))))), ?_⟩
  try dsimp only [cxOf]
  rw [mul_as] at hpq hR
  exact s_ret (ed_call (ea_cons (ed_op (ed_op (ed_var rfl) ed_c rd_num) (ed_op (ed_var rfl) ed_c rd_num) (rd_I (mulw hp.1 hq.1))) (ea_cons (ed_op (ed_op (ed_var rfl) ed_c rd_den) (ed_op (ed_var rfl) ed_c rd_den) (rd_I (mulw hp.2 hq.2))) ea_nil)) (ph_low (den_ne p q) hpq)) hR
end
end PG
namespace PG
open PySem L2 RZ DL
section
variable {P : Program} {w : World} {K : PySem.W.Frag} {mg : Str → Option Value} {base : Heap} {A : Adr}
theorem ok__law_three {f : Addr} {fd : FuncData}  (F : Fun K "_law_three" "_law_three" s__law_three f fd) (T : Txt K mg A)  (c__law_next : Cal P w K mg base 1 "_law_next" Ph__law_next [])  : FnOk P w K mg base CX0 2 f fd ["pool"] (spD K (Ph__law_three)) := by
  refine okD F sc__law_three (fun ds S R Xs h => by (repeat (first | (obtain ⟨rfl, _⟩ := h; rfl) | (obtain ⟨_, h⟩ := h)))) (fun cdv AA outer s H E hr ds S R Xs h => ?_)
  obtain ⟨x, p0, p1, p2, rfl, rfl, h0, h1, ⟨h2, h2'⟩, hR⟩ := h
  refine ⟨_, (pss_cons (ps_set (i := 1) sc__law_three.nd rfl (Or.inr rfl) (pe_ix (k_ixL K) (pe_lst (pa_cons pe_int (pa_cons pe_int (pa_cons pe_int (pa_cons pe_int (pa_cons pe_int (pa_cons pe_int pa_nil))))))) (pc c__law_next (hr.mono (by decide)) rfl (pa_cons (pv 0) (pa_cons pe_int pa_nil))) (fun _ _ => rfl)))
  (pss_cons (ps_setLc (i := 2) (own := [("k", 3)]) rfl sc__law_three.nd rfl rfl (sw_true rfl rfl rfl (by decide +kernel)) (pi_range1 rfl T.b_range (pa_cons pe_int pa_nil)) (blkOk_by (own := [("k", 3)]) (N := N__law_three) (sc := defScope s__law_three) (by decide +kernel)) (by exact fun _ _ _ _ _ => (pg_name (i := 3) sc__law_three.nd rfl (Or.inl rfl))) (by exact fun _ _ _ _ _ => pts_nil) (by exact fun _ _ _ _ _ => (pe_op op_add pe_int (pc c__law_next (hr.mono (by decide)) rfl (pa_cons (pv 0) (pa_cons (pv 1) pa_nil))))))
  (pss_cons (ps_if (pt_cmpR op_eq (pv 1) pe_int (nomark _)) (pss_one (ps_asg (pe_op op_add pe_int (pe_op op_modN (pe_ix (k_ixL K) (pv 2) pe_int (fun _ _ => rfl)) pe_int)) (pg_sub (pv 2) pe_int set_list))) pss_nil)
  (pss_cons (ps_set (i := 4) sc__law_three.nd rfl (Or.inl rfl) (pc c__law_next (hr.mono (by decide)) rfl (pa_cons (pv 0) (pa_cons pe_int pa_nil))))
  (pss_cons (ps_if (pt_cmpR op_lt (pv 4) pe_int (nomark _)) (pss_one (ps_asg pe_non (pg_sub (pv 2) (pe_op op_mulW pe_int (pv 4)) set_list))) pss_nil)
  (pss_one (ps_ret (pe_callTy (k_tuple K) rfl T.b_tuple PyProof.Rows.boot_tuple (pa_cons (pv 2) pa_nil))))))))), ?_⟩
  try dsimp only [cxOf]
  refine s_seq (s_setE (ev_fore (ev_ixE (ev_l (el_lst (ea_cons ed_c (ea_cons ed_c (ea_cons ed_c (ea_cons ed_c (ea_cons ed_c (ea_cons ed_c ea_nil)))))) (by simp)) fun y => ev_callQ0 (eva_d (ea_cons (ed_var rfl) (ea_cons ed_c ea_nil)) ⟨[_], [_], List.Perm.swap _ _ _, x, p0, p1, p2, 6, rfl, rfl, h0, h1, ⟨h2, by omega⟩, by decide, fun d q0 q2 hd0 hd hq0 hq2 hq2' => ?_⟩)))))
  obtain ⟨m, hm, hmv⟩ : ∃ m : Int, atI [dI 1, dI 3, dI 9, dI 9, dI 30, dI 1000] d = some (dI m) ∧ (m = 1 ∨ m = 3 ∨ m = 9 ∨ m = 30 ∨ m = 1000) := by
    have : d = 0 ∨ d = 1 ∨ d = 2 ∨ d = 3 ∨ d = 4 ∨ d = 5 := by omega
    rcases this with rfl | rfl | rfl | rfl | rfl | rfl
    · exact ⟨1, rfl, by decide⟩
    · exact ⟨3, rfl, by decide⟩
    · exact ⟨9, rfl, by decide⟩
    · exact ⟨9, rfl, by decide⟩
    · exact ⟨30, rfl, by decide⟩
    · exact ⟨1000, rfl, by decide⟩
  refine ⟨_, d, dI m, rfl, lst_of (k := 1) rfl, hm, [_], [_], rfl, ?_⟩
  have hm1 : 1 ≤ m ∧ m ≤ 1000 := by omega
  refine s_seq (s_setE (ev_lc (ei_rng1 (ea_cons ed_c ea_nil) (by decide) ⟨fun i acc S' => ∃ (r0 r2 : Int) (vs : List Int), acc = vs.map dI ∧ vs.length = i ∧ (∀ v ∈ vs, 1 ≤ v ∧ v ≤ m) ∧ 0 ≤ r0 ∧ 0 ≤ r2 ∧ r2 ≤ p2 + 1 + i ∧ S' = [(x, .l (dPool r0 p1 r2))], by decide, ⟨q0, q2, [], rfl, rfl, (fun _ z => nomatch z), hq0, hq2, by omega, rfl⟩, ?_, ?_, ?_⟩)))
  · rintro i acc S' hi ⟨r0, r2, vs, rfl, hl, _⟩
    exact ⟨trivial, by rw [List.length_map]; omega⟩
  · rintro i d acc S' hd ⟨r0, r2, vs, rfl, hl, hv, g0, g2, g2', rfl⟩
    have hi : i < 3 := (List.getElem?_eq_some_iff.mp hd).1
    refine ⟨_, egc_name, evt_t et_yes ?_⟩
    rw [if_pos rfl]
    refine ev_op (ev_d ed_c (ev_call0 (eva_d (ea_cons (ed_var rfl) (ea_cons (ed_var rfl) ea_nil)) ⟨[_], [], rfl, x, r0, p1, r2, m, rfl, rfl, g0, h1, ⟨g2, by omega⟩, by omega, fun e t0 t2 he0 he ht0 ht2 ht2' => ⟨_, rd_I0, t0, t2, vs ++ [1 + e], by rw [List.map_append]; rfl, by simp [hl], fun v hv' => ?_, ht0, ht2, by omega, rfl⟩⟩)))
    rcases List.mem_append.mp hv' with z | z
    · exact hv v z
    · have : v = 1 + e := by simpa using z
      omega
  rintro acc S' ⟨r0, r2, vs, rfl, hl, hv, g0, g2, g2', rfl⟩ z
  have hl : vs.length = 3 := hl
  have g2' : r2 ≤ p2 + 1 + 3 := g2'
  obtain ⟨v0, v1, v2, rfl⟩ : ∃ v0 v1 v2, vs = [v0, v1, v2] := by
    match vs, hl with
    | [a, b, c], _ => exact ⟨a, b, c, rfl⟩
  have w0 := hv v0 (by simp)
  have w1 := hv v1 (by simp)
  have w2 := hv v2 (by simp)
  have fin : ∀ u : Int, ((m ≤ 30 ∧ 1 ≤ u ∧ u ≤ m) ∨ (40 ≤ u ∧ u ≤ 1000)) → ∀ (o3 : Option D), EvS K E XF (tSeq (tAsg (tCall (spD K Ph__law_next) [] E0 (tCons (tVar 0) (tCons (tC (V.int 5)) tNil))) (gName 4)) (tSeq (tIfS (tTest (tOp (rI0 fun i j => V.bl (decide (i < j))) (tVar 4) (tC (V.int 2)))) (tAsg (tC V.non) (gSub (tVar 2) (tOp (rI CMulW fun i j => V.int (i * j)) (tC (V.int 2)) (tVar 4)) rSetL)) tNext) (tRet (tCB (fun xs H Q => ∃ p ys, xs = [.ref p] ∧ ((SqL K H p ys ∧ ∀ l, H l = none → Q (.ref l) (upd H l (.tup ys))) ∨ (SqT K H p ys ∧ Q (.ref p) H))) (tCons (tVar 2) tNil))))) [some (.v x), some (dI m), some (.v z), o3, none] [(z, .l ([v0, u, v2].map dI)), (x, .l (dPool r0 p1 r2))] (outR R) := by
    intro u hu o3
    have hu1 : 1 ≤ u ∧ u ≤ 1000 := by omega
    refine s_seq (s_setE (ev_callQ0 (eva_d (ea_cons (ed_var rfl) (ea_cons ed_c ea_nil)) ⟨[_], [_], List.Perm.swap _ _ _, x, r0, p1, r2, 5, rfl, rfl, g0, h1, ⟨g2, by omega⟩, by decide, fun e t0 t2 he0 he ht0 ht2 ht2' => ?_⟩)))
    by_cases he2 : e < 2
    · refine s_seq (s_ifT (et_test (ed_op (ed_var rfl) ed_c rd_I0)) (decide_eq_true he2) ?_)
      have : e = 0 ∨ e = 1 := by omega
      rcases this with rfl | rfl
      · exact s_setitem (k := 1) (j := 0) ed_c (ed_var rfl) rfl (ed_op ed_c (ed_var rfl) (rd_I (wide_mul (a := 4) (b := 4) (by decide) (by decide) (by decide) (by decide) (by decide)))) rfl (s_retK (F := []) (ed_tupleL (ed_var rfl) (lst_of (k := 1) rfl)) rfl (hR none u (some v2) t0 t2 ⟨⟨hu1, (fun _ z => nomatch z), (fun i z => by cases z; exact ⟨by omega, by omega⟩), .inr (fun z => nomatch z)⟩, by
          rcases hu with hu | hu
          · exact .inl ⟨by omega, (fun _ z => nomatch z), fun i z => by cases z; omega⟩
          · exact .inr hu.1⟩ ht0 ht2 (by omega)))
      · exact s_setitem (k := 1) (j := 2) ed_c (ed_var rfl) rfl (ed_op ed_c (ed_var rfl) (rd_I (wide_mul (a := 4) (b := 4) (by decide) (by decide) (by decide) (by decide) (by decide)))) rfl (s_retK (F := []) (ed_tupleL (ed_var rfl) (lst_of (k := 1) rfl)) rfl (hR (some v0) u none t0 t2 ⟨⟨hu1, (fun i z => by cases z; exact ⟨by omega, by omega⟩), (fun _ z => nomatch z), .inl (fun z => nomatch z)⟩, by
          rcases hu with hu | hu
          · exact .inl ⟨by omega, (fun i z => by cases z; omega), fun _ z => nomatch z⟩
          · exact .inr hu.1⟩ ht0 ht2 (by omega)))
    · refine s_seq (s_ifF (et_test (ed_op (ed_var rfl) ed_c rd_I0)) (decide_eq_false he2) (s_next ?_))
      exact s_retK (F := []) (ed_tupleL (ed_var rfl) (lst_of (k := 1) rfl)) rfl (hR (some v0) u (some v2) t0 t2 ⟨⟨hu1, (fun i z => by cases z; exact ⟨by omega, by omega⟩), (fun i z => by cases z; exact ⟨by omega, by omega⟩), .inl (fun z => nomatch z)⟩, by
          rcases hu with hu | hu
          · exact .inl ⟨by omega, (fun i z => by cases z; omega), fun i z => by cases z; omega⟩
          · exact .inr hu.1⟩ ht0 ht2 (by omega))
  by_cases hm1000 : m = 1000
  · have f0 := Int.fmod_nonneg_of_pos v1 (b := 961) (by decide)
    have f1 := Int.fmod_lt_of_pos v1 (b := 961) (by decide)
    exact s_seq (s_ifT (et_test (ed_op (ed_var rfl) ed_c (rd_eq rfl))) (decide_eq_true (by rw [hm1000])) (s_setitem (k := 0) (j := 1) (ed_op ed_c (ed_op (ed_ixL (d := dI v1) (ed_var rfl) (lst_of (k := 0) rfl) ed_c rfl) ed_c (rd_I (by decide))) rd_I0) (ed_var rfl) rfl ed_c rfl (fin (40 + v1.fmod 961) (by omega) _)))
  · exact s_seq (s_ifF (et_test (ed_op (ed_var rfl) ed_c (rd_eq rfl))) (decide_eq_false (by intro q; injection q with q; exact hm1000 q)) (s_next (fin v1 (by omega) _)))
theorem ok__law_known {f : Addr} {fd : FuncData}  (F : Fun K "_law_known" "_law_known" s__law_known f fd) (T : Txt K mg A)    : FnOk P w K mg base CX0 1 f fd [] (spD K (Ph__law_known)) := by
  refine okD F sc__law_known (fun ds S R Xs h => by (repeat (first | (obtain ⟨rfl, _⟩ := h; rfl) | (obtain ⟨_, h⟩ := h)))) (fun cdv AA outer s H E hr ds S R Xs h => ?_)
  obtain ⟨rfl, rfl, hR⟩ := h
  refine ⟨_, (pss_cons (ps_set (i := 0) sc__law_known.nd rfl (Or.inl rfl) (pe_lst (pa_cons (pe_tup (pa_cons (pe_tup (pa_cons pe_int (pa_cons pe_int (pa_cons pe_int pa_nil)))) (pa_cons pe_int pa_nil))) (pa_cons (pe_tup (pa_cons (pe_tup (pa_cons pe_non (pa_cons pe_int (pa_cons pe_int pa_nil)))) (pa_cons pe_int pa_nil))) (pa_cons (pe_tup (pa_cons (pe_tup (pa_cons pe_int (pa_cons pe_int (pa_cons pe_non pa_nil)))) (pa_cons pe_int pa_nil))) (pa_cons (pe_tup (pa_cons (pe_tup (pa_cons pe_non (pa_cons pe_int (pa_cons pe_int pa_nil)))) (pa_cons pe_int pa_nil))) (pa_cons (pe_tup (pa_cons (pe_tup (pa_cons pe_int (pa_cons pe_int (pa_cons pe_non pa_nil)))) (pa_cons pe_int pa_nil))) pa_nil)))))))
  (pss_one (ps_ret (pe_op op_cat (pv 0) (pe_lst (pa_cons (pe_tup (pa_cons (pe_tup (pa_cons pe_int (pa_cons pe_int (pa_cons pe_int pa_nil)))) (pa_cons pe_int pa_nil))) (pa_cons (pe_tup (pa_cons (pe_tup (pa_cons pe_int (pa_cons pe_int (pa_cons pe_int pa_nil)))) (pa_cons pe_int pa_nil))) (pa_cons (pe_tup (pa_cons (pe_tup (pa_cons pe_int (pa_cons pe_int (pa_cons pe_int pa_nil)))) (pa_cons pe_int pa_nil))) (pa_cons (pe_tup (pa_cons (pe_tup (pa_cons pe_non (pa_cons pe_int (pa_cons pe_int pa_nil)))) (pa_cons pe_int pa_nil))) pa_nil))))))))), ?_⟩
  try dsimp only [cxOf]
  refine s_seq (s_setL (ds := (known.take 5).map dKnown) (el_is (el_lst (ea_cons (ed_tup (ea_cons (ed_tup (ea_cons ed_c (ea_cons ed_c (ea_cons ed_c ea_nil)))) (ea_cons ed_c ea_nil))) (ea_cons (ed_tup (ea_cons (ed_tup (ea_cons ed_c (ea_cons ed_c (ea_cons ed_c ea_nil)))) (ea_cons ed_c ea_nil))) (ea_cons (ed_tup (ea_cons (ed_tup (ea_cons ed_c (ea_cons ed_c (ea_cons ed_c ea_nil)))) (ea_cons ed_c ea_nil))) (ea_cons (ed_tup (ea_cons (ed_tup (ea_cons ed_c (ea_cons ed_c (ea_cons ed_c ea_nil)))) (ea_cons ed_c ea_nil))) (ea_cons (ed_tup (ea_cons (ed_tup (ea_cons ed_c (ea_cons ed_c (ea_cons ed_c ea_nil)))) (ea_cons ed_c ea_nil))) ea_nil))))) (by simp)) rfl) fun x => ?_)
  refine s_retL0 (el_is (el_catLN (k := 0) (ed_var rfl) rfl (el_lst (ea_cons (ed_tup (ea_cons (ed_tup (ea_cons ed_c (ea_cons ed_c (ea_cons ed_c ea_nil)))) (ea_cons ed_c ea_nil))) (ea_cons (ed_tup (ea_cons (ed_tup (ea_cons ed_c (ea_cons ed_c (ea_cons ed_c ea_nil)))) (ea_cons ed_c ea_nil))) (ea_cons (ed_tup (ea_cons (ed_tup (ea_cons ed_c (ea_cons ed_c (ea_cons ed_c ea_nil)))) (ea_cons ed_c ea_nil))) (ea_cons (ed_tup (ea_cons (ed_tup (ea_cons ed_c (ea_cons ed_c (ea_cons ed_c ea_nil)))) (ea_cons ed_c ea_nil))) ea_nil)))) (by simp)) (by simp [known])) rfl) hR
end
end PG
namespace PG
open PySem L2 RZ DL
section
variable {P : Program} {w : World} {K : PySem.W.Frag} {mg : Str → Option Value} {base : Heap} {A : Adr}
theorem ok__law_numbers {f : Addr} {fd : FuncData}  (F : Fun K "_law_numbers" "_law_numbers" s__law_numbers f fd) (T : Txt K mg A)  (c__law_by : Cal P w K mg base 3 "_law_by" Ph__law_by []) (c__law_gap : Cal P w K mg base 3 "_law_gap" Ph__law_gap []) (c__law_low : Cal P w K mg base 2 "_law_low" Ph__law_low [])  : FnOk P w K mg base CX0 4 f fd ["weights"] (spD K (Ph__law_numbers)) := by
  refine okD F sc__law_numbers (fun ds S R Xs h => by (repeat (first | (obtain ⟨rfl, _⟩ := h; rfl) | (obtain ⟨_, h⟩ := h)))) (fun cdv AA outer s H E hr ds S R Xs h => ?_)
  obtain ⟨a, b, c, N, rfl, rfl, hw, ⟨hN3, hN, hpos, hend, hsz⟩, hR⟩ := h
  refine ⟨_, (pss_cons (ps_asg (pv 0) (k_gtup K 3 rfl (pgs_cons (pg_name (i := 1) sc__law_numbers.nd rfl (Or.inl rfl)) (pgs_cons (pg_name (i := 2) sc__law_numbers.nd rfl (Or.inl rfl)) (pgs_cons (pg_name (i := 3) sc__law_numbers.nd rfl (Or.inl rfl)) pgs_nil)))))
  (pss_cons (ps_if (pt_cmpR op_isN (pv 1) pe_non (nomark _)) (pss_one (ps_set (i := 4) sc__law_numbers.nd rfl (Or.inl rfl) (pc c__law_low (hr.mono (by decide)) rfl (pa_cons (pe_op op_mulW pe_int (pv 3)) (pa_cons (pe_op op_add (pv 2) (pv 3)) pa_nil))))) (pss_one (ps_if (pt_cmpR op_isN (pv 3) pe_non (nomark _)) (pss_one (ps_set (i := 4) sc__law_numbers.nd rfl (Or.inl rfl) (pc c__law_low (hr.mono (by decide)) rfl (pa_cons (pe_op op_mulW pe_int (pv 1)) (pa_cons (pe_op op_add (pv 1) (pv 2)) pa_nil))))) (pss_one (ps_set (i := 4) sc__law_numbers.nd rfl (Or.inl rfl) (pc c__law_low (hr.mono (by decide)) rfl (pa_cons (pe_op op_mulW (pe_op op_mulW pe_int (pv 1)) (pv 3)) (pa_cons (pe_op op_mulW (pe_op op_add (pv 1) (pv 2)) (pe_op op_add (pv 2) (pv 3))) pa_nil))))))))
  (pss_cons (ps_set (i := 5) sc__law_numbers.nd rfl (Or.inl rfl) (pe_lst (pa_cons (pe_tup (pa_cons pe_int (pa_cons pe_int pa_nil))) (pa_cons (pe_tup (pa_cons pe_int (pa_cons pe_int pa_nil))) pa_nil))))
  (pss_cons (ps_while PassesOwn.never (PW.pt (pw_and (pt_cmpR op_gt (pe_ix (k_ixT K) (pe_ix (k_ixL K) (pv 5) (pe_un un_neg pe_int) (fun _ _ => rfl)) pe_int (fun _ _ => rfl)) pe_int (nomark _)) (pw_and1 (pt_cmpR op_lt (pe_callB (k_len K) rfl T.b_len PySem.boot_len (pa_cons (pv 5) pa_nil)) pe_int (nomark _))))) (pss_cons (ps_set (i := 6) sc__law_numbers.nd rfl (Or.inl rfl) (pe_ix (k_ixL K) (pe_lst (pa_cons (pe_tup (pa_cons pe_int (pa_cons pe_int pa_nil))) (pa_cons (pv 4) pa_nil))) (pe_op op_modN (pe_op op_sub (pe_callB (k_len K) rfl T.b_len PySem.boot_len (pa_cons (pv 5) pa_nil)) pe_int) pe_int) (fun _ _ => rfl)))
  (pss_one (ps_expr (pe_bm PySem.F.plainAttrs_list PySem.F.slot_list_append PySem.F.type_list_append mt_append (pv 5) (pa_cons (pc c__law_gap (hr.mono (by decide)) rfl (pa_cons (pc c__law_by (hr.mono (by decide)) rfl (pa_cons (pe_ix (k_ixL K) (pv 5) (pe_un un_neg pe_int) (fun _ _ => rfl)) (pa_cons (pv 6) pa_nil))) (pa_cons (pe_ix (k_ixL K) (pv 5) (pe_un un_neg pe_int) (fun _ _ => rfl)) pa_nil))) pa_nil))))))
  (pss_one (ps_ret (pv 5))))))), ?_⟩
  try dsimp only [cxOf]
  have zf : Sz 24 (factor a b c) := factor_sz hw
  have zB : Sz BB (factor a b c) := zf.mono (by decide)
  refine s_seq (s_asg (ed_var rfl) (eg_tup (egs_cons eg_name (egs_cons eg_name (egs_cons eg_name egs_nil)))) (s_seq (s_to (Q := fun e s => e = [some (dWts a b c), some (dW a), some (dI b), some (dW c), some (dR (factor a b c)), none, none] ∧ s = []) ?_ ?_)))
  · obtain ⟨hb, ha, hc, hac⟩ := hw
    have q1 : ∀ i : Int, wOk i → CMulW 4 i := fun i h => wide_mul (a := 12) (b := 12) (by decide) (by have := h.1; have := h.2; omega) (by decide) (by decide) (by decide)
    have hb1 := hb.1
    have hb2 := hb.2
    cases a with
    | none =>
      cases c with
      | none => simp at hac
      | some c =>
        have hc' := hc c rfl
        have h1 := hc'.1
        exact s_ifT (et_test (ed_op (ed_var rfl) ed_c rd_isN)) rfl (s_set (ed_call (ea_cons (ed_op ed_c (ed_var rfl) (rd_I (q1 c hc'))) (ea_cons (ed_op (ed_var rfl) (ed_var rfl) rd_I0) ea_nil)) (ph_low (by omega) zB)) ⟨rfl, rfl⟩)
    | some a =>
      have ha' := ha a rfl
      have h1 := ha'.1
      have h2 := ha'.2
      refine s_ifF (et_test (ed_op (ed_var rfl) ed_c rd_isN)) rfl ?_
      cases c with
      | none => exact s_ifT (et_test (ed_op (ed_var rfl) ed_c rd_isN)) rfl (s_set (ed_call (ea_cons (ed_op ed_c (ed_var rfl) (rd_I (q1 a ha'))) (ea_cons (ed_op (ed_var rfl) (ed_var rfl) rd_I0) ea_nil)) (ph_low (by omega) zB)) ⟨rfl, rfl⟩)
      | some c =>
        have hc' := hc c rfl
        have h3 := hc'.1
        have h4 := hc'.2
        have hp : 0 < (a + b) * (b + c) := Int.mul_pos (by omega) (by omega)
        exact s_ifF (et_test (ed_op (ed_var rfl) ed_c rd_isN)) rfl (s_set (ed_call (ea_cons (ed_op (ed_op ed_c (ed_var rfl) (rd_I (q1 a ha'))) (ed_var rfl) (rd_I (wide_mul (a := 12) (b := 12) (by omega) (by omega) (by decide) (by decide) (by decide)))) (ea_cons (ed_op (ed_op (ed_var rfl) (ed_var rfl) rd_I0) (ed_op (ed_var rfl) (ed_var rfl) rd_I0) (rd_I (wide_mul (a := 12) (b := 12) (by omega) (by omega) (by decide) (by decide) (by decide)))) ea_nil)) (ph_low (by omega) zB)) ⟨rfl, rfl⟩)
  rintro _ _ ⟨rfl, rfl⟩
  generalize factor a b c = q at *
  refine s_seq (s_setL (ds := (numbers q 2).map dR) (el_is (el_lst (ea_cons (ed_tup (ea_cons ed_c (ea_cons ed_c ea_nil))) (ea_cons (ed_tup (ea_cons ed_c (ea_cons ed_c ea_nil))) ea_nil))) rfl) fun x => s_seq ?_)
  refine s_while (I := fun m env S => ∃ L o, 2 ≤ L ∧ L ≤ N ∧ m = N - L ∧ env = [some (dWts a b c), some (dW a), some (dI b), some (dW c), some (dR q), some (.v x), o] ∧ S = [(x, .l ((numbers q L).map dR))]) (m := N - 2) ⟨2, none, Nat.le_refl _, by omega, rfl, rfl, rfl⟩ ?_
  rintro m env S ⟨L, o, h2, hL, rfl, rfl, rfl⟩
  have dl : ((numbers q L).map dR).length = L := by rw [List.length_map, numbers_len]
  have i1 : atI ((numbers q L).map dR) (-1) = some (dR (numS q (L - 1))) := by
    have := atI_neg (xs := (numbers q L).map dR) (j := 1) (Nat.le_refl _) (by omega)
    rw [dl, List.getElem?_map, numbers_get (by omega)] at this; exact this
  have i2 : atI ((numbers q L).map dR) (-2) = some (dR (numS q (L - 2))) := by
    have := atI_neg (xs := (numbers q L).map dR) (j := 2) (by omega) (by omega)
    rw [dl, List.getElem?_map, numbers_get (by omega)] at this; exact this
  by_cases hlt : L < N
  · have hp : 0 < numS q (L - 1) := hpos _ (by omega)
    refine evt_t (et_andT (et_test (ed_op (ed_op (ed_ixL (ed_var rfl) (lst_of (k := 0) rfl) (ed_un ed_c ru_I) i1) ed_c rd_num) ed_c rd_I0)) (decide_eq_true (num_pos.mpr hp)) (et_is (b := true) (et_test (ed_op (ed_lenL (ed_var rfl) (lst_of (k := 0) rfl)) ed_c rd_I0)) (decide_eq_true (by rw [dl]; omega)))) ?_
    rw [if_pos rfl]
    have z1 := hsz (L - 1) (by omega)
    have z2 := hsz (L - 2) (by omega)
    have z3 := hsz L hlt
    have eL : L = (L - 2) + 2 := by omega
    have estep : numS q L = numS q (L - 1) * (if L % 2 = 0 then q else 1) - numS q (L - 2) := by
      have e1 : (L - 2) + 1 = L - 1 := by omega
      have e2 : (L - 2) % 2 = L % 2 := by omega
      have := numS_step q (L - 2)
      rw [e1, e2, ← eL] at this; exact this
    have hmod : (((L : Int) - 1).fmod 2) = (((L - 1) % 2 : Nat) : Int) := by rw [Int.fmod_eq_emod_of_nonneg _ (by decide)]; omega
    have hix : atI [dR 1, dR q] (((L : Int) - 1).fmod 2) = some (dR (if L % 2 = 0 then q else 1)) := by
      rw [hmod]
      by_cases hpar : L % 2 = 0
      · have e : (L - 1) % 2 = 1 := by omega
        rw [e, if_pos hpar]; rfl
      · have e : (L - 1) % 2 = 0 := by omega
        rw [e, if_neg hpar]; rfl
    have zst : Sz 24 (if L % 2 = 0 then q else (1 : Rat)) := by
      split
      · exact zf
      · exact ⟨by decide, by decide⟩
    generalize (if L % 2 = 0 then q else (1 : Rat)) = st at *
    have zm : Sz BB (numS q (L - 1) * st) := (Sz.mul z1 zst (by decide)).mono (by decide)
    refine s_seq (s_set (ed_ixN (ds := [dR 1, dR q]) (el_is (el_lst (ea_cons (ed_tup (ea_cons ed_c (ea_cons ed_c ea_nil))) (ea_cons (ed_var rfl) ea_nil))) rfl) (ed_op (ed_op (ed_lenL (ed_var rfl) (lst_of (k := 0) rfl)) ed_c rd_I0) ed_c (rd_I (by decide))) (by rw [dl]; exact hix)) ?_)
    refine s_app (ed_var rfl) (k := 0) rfl (ed_call (ea_cons (ed_call (ea_cons (ed_ixL (ed_var rfl) (lst_of (k := 0) rfl) (ed_un ed_c ru_I) i1) (ea_cons (ed_var rfl) ea_nil)) (ph_times z1.up (zst.mono (by decide)) zm)) (ea_cons (ed_ixL (ed_var rfl) (lst_of (k := 0) rfl) (ed_un ed_c ru_I) i2) ea_nil)) (ph_minus zm z2.up (by rw [← estep]; exact z3.up))) (by rw [dl]; omega) ⟨N - (L + 1), by omega, L + 1, _, by omega, by omega, rfl, rfl, ?_⟩
    rw [← estep, numbers_snoc, List.map_append]; rfl
  · have eN : L = N := by omega
    subst eN
    have hdec : decide (0 < (numS q (L - 1)).num) = false := decide_eq_false fun z => by
      have := num_pos.mp z
      exact absurd hend (Rat.not_le.mpr this)
    refine evt_t (et_andF (et_test (ed_op (ed_op (ed_ixL (ed_var rfl) (lst_of (k := 0) rfl) (ed_un ed_c ru_I) i1) ed_c rd_num) ed_c rd_I0)) hdec) ?_
    rw [if_neg Bool.false_ne_true]
    exact s_retK (F := []) (ed_var rfl) rfl (hR x)
theorem ok_law {f : Addr} {fd : FuncData}  (F : Fun K "law" "law" s_law f fd) (T : Txt K mg A)  (c__law_cell : Cal P w K mg base 1 "_law_cell" Ph__law_cell []) (c__law_known : Cal P w K mg base 1 "_law_known" Ph__law_known []) (c__law_next : Cal P w K mg base 1 "_law_next" Ph__law_next []) (c__law_numbers : Cal P w K mg base 4 "_law_numbers" Ph__law_numbers []) (c__law_pool : Cal P w K mg base 1 "_law_pool" Ph__law_pool []) (c__law_three : Cal P w K mg base 2 "_law_three" Ph__law_three []) (c_most_of : Cal P w K mg base 12 "most_of" Ph_most_of []) (hM : ∀ a b c, LawW a b c → ∃ N J, NumOk (factor a b c) N ∧ MostRun a b c N J) (hKn : ∀ p ∈ known, NumOk (factor p.1.1 p.1.2.1 p.1.2.2) p.2 ∧ ∃ J, MostRun p.1.1 p.1.2.1 p.1.2.2 p.2 J) : FnOk P w K mg base CX0 13 f fd ["script"] (spD K (Ph_law)) := by
  refine okD F sc_law (fun ds S R Xs h => by (repeat (first | (obtain ⟨rfl, _⟩ := h; rfl) | (obtain ⟨_, h⟩ := h)))) (fun cdv AA outer s H E hr ds S R Xs h => ?_)
  obtain ⟨ns, rfl, rfl, hl, hR⟩ := h
  refine ⟨_, (pss_cons (ps_set (i := 1) sc_law.nd rfl (Or.inl rfl) (pc c__law_pool (hr.mono (by decide)) rfl (pa_cons (pc c__law_cell (hr.mono (by decide)) rfl (pa_cons (pv 0) (pa_cons pe_int pa_nil))) pa_nil)))
  (pss_cons (ps_asg (pe_ix (k_ixL K) (pc0 c__law_known (hr.mono (by decide)) rfl) (pc c__law_next (hr.mono (by decide)) rfl (pa_cons (pv 1) (pa_cons pe_int pa_nil))) (fun _ _ => rfl)) (k_gtup K 2 rfl (pgs_cons (pg_name (i := 2) sc_law.nd rfl (Or.inl rfl)) (pgs_cons (pg_name (i := 3) sc_law.nd rfl (Or.inl rfl)) pgs_nil))))
  (pss_cons (ps_if (PW.pt (pw_or (pt_cmpR op_ne (pe_ix (k_ixT K) (pc c_most_of (hr.mono (by decide)) rfl (pa_cons (pv 2) pa_nil)) pe_int (fun _ _ => rfl)) (pv 3) (nomark _)) (pw_or1 (pt_cmpR op_ne (pe_callB (k_len K) rfl T.b_len PySem.boot_len (pa_cons (pc c__law_numbers (hr.mono (by decide)) rfl (pa_cons (pv 2) pa_nil)) pa_nil)) (pv 3) (nomark _))))) (pss_one (ps_ret pe_bl)) pss_nil)
  (pss_cons (ps_for PassesOwn.never rfl (pi_list (pe_op op_cat (pe_lst (pa_cons pe_int pa_nil)) (pe_slice (k_slL K) (pv 0) po_none (po_some pe_int)))) (pg_name (i := 4) sc_law.nd rfl (Or.inl rfl)) (pss_cons (ps_set (i := 1) sc_law.nd rfl (Or.inl rfl) (pc c__law_pool (hr.mono (by decide)) rfl (pa_cons (pv 4) pa_nil)))
  (pss_cons (ps_set (i := 2) sc_law.nd rfl (Or.inl rfl) (pc c__law_three (hr.mono (by decide)) rfl (pa_cons (pv 1) pa_nil)))
  (pss_cons (ps_set (i := 5) sc_law.nd rfl (Or.inl rfl) (pc c_most_of (hr.mono (by decide)) rfl (pa_cons (pv 2) pa_nil)))
  (pss_cons (ps_set (i := 6) sc_law.nd rfl (Or.inl rfl) (pc c__law_numbers (hr.mono (by decide)) rfl (pa_cons (pv 2) pa_nil)))
  (pss_cons (ps_if (PW.pt (pw_or (pt_not (pt_val (pe_callB (k_isi K) rfl T.b_isinstance PyProof.Rows.boot_isinstance (pa_cons (pv 5) (pa_cons (pe_bltn (v := V.ty "tuple") (by rfl) T.b_tuple PyProof.Rows.boot_tuple rfl) pa_nil))))) (pw_or (pt_cmpR op_ne (pe_callB (k_len K) rfl T.b_len PySem.boot_len (pa_cons (pv 5) pa_nil)) pe_int (nomark _)) (pw_or1 (pt_cmpR (k_neD K hr.units) (pe_slice (k_slT K) (pv 5) po_none (po_some pe_int)) (pe_tup (pa_cons (pe_callB (k_len K) rfl T.b_len PySem.boot_len (pa_cons (pv 6) pa_nil)) (pa_cons (pv 6) pa_nil))) (nomark _)))))) (pss_one (ps_ret pe_bl)) pss_nil)
  (pss_cons (ps_if (pt_not (pt_val (pe_callB (k_isi K) rfl T.b_isinstance PyProof.Rows.boot_isinstance (pa_cons (pe_ix (k_ixT K) (pv 5) pe_int (fun _ _ => rfl)) (pa_cons (pe_bltn (v := V.ty "list") (by rfl) T.b_list PyProof.Rows.boot_list rfl) pa_nil))))) (pss_one (ps_ret pe_bl)) pss_nil)
  (pss_cons (ps_expr (pe_bm PySem.F.plainAttrs_list PySem.F.slot_list_append PySem.F.type_list_append mt_append (pe_ix (k_ixT K) (pv 5) pe_int (fun _ _ => rfl)) (pa_cons pe_non pa_nil)))
  (pss_cons (ps_set (i := 7) sc_law.nd rfl (Or.inl rfl) (pc c_most_of (hr.mono (by decide)) rfl (pa_cons (pv 2) pa_nil)))
  (pss_one (ps_if (PW.pt (pw_or (pt_cmpR (k_neD K hr.units) (pe_ix (k_ixT K) (pv 7) pe_int (fun _ _ => rfl)) (pv 6) (nomark _)) (pw_or1 (pt_cmpR (k_neD K hr.units) (pe_slice (k_slT K) (pv 7) (po_some pe_int) po_none) (pe_slice (k_slT K) (pv 5) (po_some pe_int) po_none) (nomark _))))) (pss_one (ps_ret pe_bl)) pss_nil)))))))))))
  (pss_one (ps_ret pe_bl)))))), ?_⟩
  try dsimp only [cxOf]
  refine s_seq (s_setE (ev_call0 (eva_d (ea_cons (ed_call (ea_cons (ed_var rfl) (ea_cons ed_c ea_nil)) (ph_cell (k := 0))) ea_nil) ⟨[], [], rfl, _, rfl, rfl, fun x p0 p1 h0 h1 h1' => ?_⟩)))
  refine s_seq (s_asgE (ev_let (ev_ixE (ev_call0 (eva_nil ⟨[], _, rfl, rfl, rfl, fun y => ev_callQ0 (eva_d (ea_cons (ed_var rfl) (ea_cons ed_c ea_nil)) ⟨[_], [_], List.Perm.swap _ _ _, x, p0, p1, 0, 9, rfl, rfl, h0, ⟨h1, h1'⟩, by decide, by decide, fun d q0 q2 hd0 hd hq0 hq2 hq2' => ?_⟩)⟩)))))
  obtain ⟨p, hp, hix⟩ := known_at hd0 hd
  obtain ⟨hNk, Jk, hMk⟩ := hKn p hp
  have hWk := known_ok p hp
  refine ⟨_, d, dKnown p, rfl, lst_of (k := 1) rfl, hix, [_, _], [], rfl, _, eg_tup (egs_cons eg_name (egs_cons eg_name egs_nil)), ?_⟩
  have dlk : ((numbers (factor p.1.1 p.1.2.1 p.1.2.2) p.2).map dR).length = p.2 := by rw [List.length_map, numbers_len]
  refine s_seq (s_let (s_ifE (evt_orF (evt_test (ev_op (ev_op (ev_call0 (eva_d (ea_cons (ed_var rfl) ea_nil) ⟨[], _, rfl, _, _, _, p.2, Jk, rfl, rfl, hWk, hNk, hMk, fun u => ev_d ed_c ⟨_, rd_ix0, ev_d (ed_var rfl) ⟨_, rd_ne rfl, _, rfl, ?_⟩⟩⟩))))))))
  refine ⟨by simp, evt_test (ev_op (ev_lenE (ev_call0 (eva_d (ea_cons (ed_var rfl) ea_nil) ⟨[], _, rfl, _, _, _, p.2, rfl, rfl, hWk, hNk, fun z => ⟨_, lst_of (k := 0) rfl, ev_d (ed_var rfl) ⟨_, rd_ne rfl, _, rfl, ?_⟩⟩⟩))))⟩
  rw [dlk, if_neg (by simp)]
  refine s_next ⟨[_, _], [], rfl, ?_⟩
  -- the loop
  have ecut : [dI 0] ++ cut (ns.map dI) none (some 11) = ([0] ++ cut ns none (some 11)).map dI := by
    unfold cut
    rw [List.length_map, List.map_append, List.map_take, List.map_drop]; rfl
  have lcut : (cut ns none (some 11)).length ≤ 63 := by
    unfold cut
    rw [List.length_take, List.length_drop]; omega
  have lcut' : ([dI 0] ++ cut (ns.map dI) none (some 11)).length ≤ 64 := by rw [ecut]; simp; omega
  have lcut2 : [dI 0].length + (cut (ns.map dI) none (some 11)).length ≤ 1000000 := by rw [← List.length_append]; omega
  refine s_seq (s_for (ei_new (el_is (el_catNN (el_lst (ea_cons ed_c ea_nil)) (el_slL (ed_var rfl) (Or.inl rfl) eo_none (eo_some ed_c)) lcut2) ecut) fun l => ?_))
  generalize [0] ++ cut ns none (some 11) = cells
  refine ⟨fun i env S => ∃ o1 o2 o3 o4 o5 o6 o7, env = [some (.s (ns.map dI)), o1, o2, o3, o4, o5, o6, o7] ∧ S = [(l, .l (cells.map dI))], ⟨_, _, _, _, _, _, _, rfl, rfl⟩, ?_, ?_, ?_⟩
  · rintro i env S' _ ⟨o1, o2, o3, o4, o5, o6, o7, rfl, rfl⟩
    exact lst_of (k := 0) rfl
  · rintro i d env S' hd ⟨o1, o2, o3, o4, o5, o6, o7, rfl, rfl⟩
    rw [List.getElem?_map] at hd
    obtain ⟨cell, hcell, rfl⟩ := Option.map_eq_some_iff.mp hd
    refine ⟨_, eg_name, s_seq (s_setE (ev_call0 (eva_d (ea_cons (ed_var rfl) ea_nil) ⟨[], _, rfl, cell, rfl, rfl, fun x p0 p1 h0 h1 h1' => ?_⟩)))⟩
    refine s_seq (s_setE (ev_call0 (eva_d (ea_cons (ed_var rfl) ea_nil) ⟨[_], _, rfl, x, p0, p1, 0, rfl, rfl, h0, ⟨h1, h1'⟩, by decide, fun a b c q0 q2 hW hq0 hq2 hq2' => s_drop1 ?_⟩)))
    obtain ⟨N, J, hN, hMr⟩ := hM a b c hW
    have dl : ((numbers (factor a b c) N).map dR).length = N := by rw [List.length_map, numbers_len]
    have hN100 := hN.2.1
    have shL : Shp 2 (.list (pds ((numbers (factor a b c) N).map dR))) := .lst (shp_map shp_dR _)
    refine s_seq (s_setE (ev_call0 (eva_d (ea_cons (ed_var rfl) ea_nil) ⟨[], _, rfl, a, b, c, N, J, rfl, rfl, hW.1, hN, hMr, fun y => ?_⟩)))
    refine s_seq (s_setE (ev_call0 (eva_d (ea_cons (ed_var rfl) ea_nil) ⟨[], _, rfl, a, b, c, N, rfl, rfl, hW.1, hN, fun z => ?_⟩)))
    refine s_seq (s_ifF (et_orF (et_not (a := true) (et_B (ed_cb (ea_cons (ed_var rfl) (ea_cons ed_c ea_nil)) (rc_isi (by show ("tuple" : String) ≠ ""; decide) (kit_ty (by show kitB "tuple" "tuple" = some true; decide +kernel)))))) rfl (et_orF (et_test (ed_op (ed_lenT (ed_var rfl)) ed_c (rd_ne rfl))) rfl (et_test (ed_neS (x := .t [dI (N : Int), .v y]) (y := .t [dI (N : Int), .v z]) (p := .tuple [.int (N : Int), .list (pds ((numbers (factor a b c) N).map dR))]) (ed_is (ed_slT (ed_var rfl) eo_none (eo_some ed_c)) rfl) (ed_is (ed_tup (ea_cons (ed_lenL (ed_var rfl) (lst_of (k := 0) rfl)) (ea_cons (ed_var rfl) ea_nil))) (by rw [dl])) (.tup (.cons (.base rfl) (.cons (.lst (k := 1) rfl (pdsS_map ok_dR _)) .nil))) (.tup (.cons (.base rfl) (.cons (.lst (k := 0) rfl (pdsS_map ok_dR _)) .nil))) ((Shp.tup (.cons .int (.cons shL .nil))).mono (by decide)))))) rfl (s_next ?_))
    refine s_seq (s_ifF (et_not (a := true) (et_B (ed_isiL (ed_op (ed_var rfl) ed_c rd_ix1) (k := 1) rfl))) rfl (s_next ?_))
    refine s_seq (s_app (ed_op (ed_var rfl) ed_c rd_ix1) (k := 1) rfl ed_c (by rw [dl]; omega) ?_)
    refine s_seq (s_setE (ev_call0 (eva_d (ea_cons (ed_var rfl) ea_nil) ⟨[], _, rfl, a, b, c, N, J, rfl, rfl, hW.1, hN, hMr, fun u => ?_⟩)))
    refine s_let (s_ifF (et_orF (et_test (ed_neS (ed_op (ed_var rfl) ed_c rd_ix1) (ed_var rfl) (.lst (k := 0) rfl (pdsS_map ok_dR _)) (.lst (k := 1) rfl (pdsS_map ok_dR _)) (shL.mono (by decide)))) rfl (et_test (ed_neS (x := .t [dRow (startOf a b c (epsOf J)).1, dWls (startOf a b c (epsOf J)).2]) (y := .t [dRow (startOf a b c (epsOf J)).1, dWls (startOf a b c (epsOf J)).2]) (ed_is (ed_slT (ed_var rfl) (eo_some ed_c) eo_none) rfl) (ed_is (ed_slT (ed_var rfl) (eo_some ed_c) eo_none) rfl) (.tup (.cons (.base (ok_dRow _)) (.cons (.base (ok_dWls _)) .nil))) (.tup (.cons (.base (ok_dRow _)) (.cons (.base (ok_dWls _)) .nil))) ((Shp.tup (.cons (shp_dRow _) (.cons (shp_dWls _) .nil))).mono (by decide))))) rfl (s_next ⟨[_, _, _], _, rfl, _, _, _, _, _, _, _, rfl, rfl⟩))
  · rintro env S' ⟨o1, o2, o3, o4, o5, o6, o7, rfl, rfl⟩
    exact s_ret0 ed_c hR
end
end PG
namespace DL
def kap (k1 k2 : Rat) (k : Nat) : Rat := if k % 2 = 0 then k1 else k2
def gs (k1 k2 x0 x1 : Rat) : Nat → Rat
  | 0 => x0
  | 1 => x1
  | k + 2 => kap k1 k2 k * gs k1 k2 x0 x1 (k + 1) - gs k1 k2 x0 x1 k
theorem gs_step (k1 k2 x0 x1 : Rat) (k : Nat) : gs k1 k2 x0 x1 (k + 2) = kap k1 k2 k * gs k1 k2 x0 x1 (k + 1) - gs k1 k2 x0 x1 k := rfl
theorem two_ind {P : Nat → Prop} (h0 : P 0) (h1 : P 1) (hs : ∀ k, P k → P (k + 1) → P (k + 2)) (k : Nat) : P k := by
  suffices P k ∧ P (k + 1) from this.1
  induction k with
  | zero => exact ⟨h0, h1⟩
  | succ k ih => exact ⟨ih.2, hs k ih.1 ih.2⟩
theorem gs_lin (k1 k2 a b x0 x1 y0 y1 : Rat) (k : Nat) : gs k1 k2 (a * x0 + b * y0) (a * x1 + b * y1) k = a * gs k1 k2 x0 x1 k + b * gs k1 k2 y0 y1 k := by
  refine two_ind (P := fun k => gs k1 k2 (a * x0 + b * y0) (a * x1 + b * y1) k = a * gs k1 k2 x0 x1 k + b * gs k1 k2 y0 y1 k) rfl rfl (fun k h1 h2 => ?_) k
  rw [gs_step, gs_step, gs_step, h1, h2]
  grind
theorem gs_wr (k1 k2 x0 x1 y0 y1 : Rat) (k : Nat) : gs k1 k2 y0 y1 (k + 1) * gs k1 k2 x0 x1 k - gs k1 k2 y0 y1 k * gs k1 k2 x0 x1 (k + 1) = y1 * x0 - y0 * x1 := by
  induction k with
  | zero => rfl
  | succ k ih => rw [gs_step, gs_step]; grind
theorem gs_A (k1 k2 : Rat) (k : Nat) : gs k1 k2 0 1 (k + 1) = numS (k1 * k2) k * (if k % 2 = 0 then 1 else k1) := by
  refine two_ind (P := fun k => gs k1 k2 0 1 (k + 1) = numS (k1 * k2) k * (if k % 2 = 0 then 1 else k1)) ?_ ?_ (fun k h1 h2 => ?_) k
  · show (1 : Rat) = 1 * 1; grind
  · show k1 * 1 - 0 = 1 * k1; grind
  · rw [gs_step, h1, h2, numS_step]
    unfold kap
    by_cases h : k % 2 = 0
    · have h3 : (k + 1) % 2 ≠ 0 := by omega
      have h4 : (k + 2) % 2 = 0 := by omega
      simp only [h, h3, h4, if_true, if_false]; grind
    · have h3 : (k + 1) % 2 = 0 := by omega
      have h4 : (k + 2) % 2 ≠ 0 := by omega
      simp only [h, h3, h4, if_true, if_false]; grind
theorem gs_B (k1 k2 : Rat) (k : Nat) : gs k1 k2 (-1) 0 (k + 2) = numS (k1 * k2) k * (if k % 2 = 0 then 1 else k2) := by
  refine two_ind (P := fun k => gs k1 k2 (-1) 0 (k + 2) = numS (k1 * k2) k * (if k % 2 = 0 then 1 else k2)) ?_ ?_ (fun k h1 h2 => ?_) k
  · show k1 * 0 - (-1) = 1 * 1; grind
  · show k2 * (k1 * 0 - (-1)) - 0 = 1 * k2; grind
  · rw [gs_step, h1, h2, numS_step]
    unfold kap
    by_cases h : k % 2 = 0
    · have h3 : (k + 1) % 2 ≠ 0 := by omega
      have h4 : (k + 2) % 2 = 0 := by omega
      simp only [h, h3, h4, if_true, if_false]; grind
    · have h3 : (k + 1) % 2 = 0 := by omega
      have h4 : (k + 2) % 2 ≠ 0 := by omega
      simp only [h, h3, h4, if_true, if_false]; grind
end DL
namespace DL
theorem div_le_of {a b c : Rat} (hb : 0 < b) (h : a ≤ c * b) : a / b ≤ c := by
  rcases (Rat.le_total : a / b ≤ c ∨ c ≤ a / b) with q | q
  · exact q
  · rcases Rat.le_iff_lt_or_eq.mp q with q | q
    · have := (Rat.lt_div_iff hb).mp q; grind
    · rw [q]; exact Rat.le_refl
theorem pos_of_mul {a b : Rat} (ha : 0 < a) (h : 0 < a * b) : 0 < b := by
  rcases (Rat.le_total : b ≤ 0 ∨ 0 ≤ b) with q | q
  · have := Rat.mul_le_mul_of_nonneg_left q (Rat.le_of_lt ha); grind
  · rcases Rat.le_iff_lt_or_eq.mp q with q | q
    · exact q
    · rw [← q] at h; grind
theorem div_pos {a b : Rat} (ha : 0 < a) (hb : 0 < b) : 0 < a / b := (Rat.lt_div_iff hb).mpr (by grind)
/-- Sturm: where c's numbers are above nought, so are those of a greater one -/
theorem numS_mono {c d : Rat} (hcd : c ≤ d) (n : Nat) (hp : ∀ k, k ≤ n → 0 < numS c k) : ∀ k, k ≤ n → 0 < numS d k ∧ 0 ≤ numS d (k + 1) * numS c k - numS d k * numS c (k + 1) := by
  intro k
  induction k with
  | zero => intro _; exact ⟨by show (0 : Rat) < 1; decide +kernel, by show (0 : Rat) ≤ 1 * 1 - 1 * 1; decide +kernel⟩
  | succ k ih =>
    intro hk
    obtain ⟨h1, h2⟩ := ih (by omega)
    have c0 := hp k (by omega)
    have c1 := hp (k + 1) hk
    have m1 := Rat.mul_pos h1 c1
    have d1 : 0 < numS d (k + 1) := pos_of_mul c0 (by grind)
    refine ⟨d1, ?_⟩
    rw [numS_step, numS_step]
    have m2 := Rat.mul_pos d1 c1
    by_cases hpar : k % 2 = 0
    · rw [if_pos hpar, if_pos hpar]
      have m3 := Rat.mul_le_mul_of_nonneg_left hcd (Rat.le_of_lt m2)
      grind
    · rw [if_neg hpar, if_neg hpar]; grind
theorem least_ex {P : Nat → Prop} [DecidablePred P] : ∀ {m : Nat}, P m → ∃ r, r ≤ m ∧ P r ∧ ∀ k, k < r → ¬ P k := by
  intro m
  induction m using Nat.strongRecOn with
  | ind m ih =>
    intro h
    by_cases q : ∃ k, k < m ∧ P k
    · obtain ⟨k, hk, pk⟩ := q
      obtain ⟨r, h1, h2, h3⟩ := ih k hk pk
      exact ⟨r, by omega, h2, h3⟩
    · exact ⟨m, Nat.le_refl _, h, fun k hk pk => q ⟨k, hk, pk⟩⟩
/-- a number of numbers: the first that is not above nought -/
theorem numS_end {c d : Rat} (hcd : c ≤ d) {m : Nat} (hm : numS d m ≤ 0) : ∃ r, 2 ≤ r ∧ r ≤ m ∧ numS c r ≤ 0 ∧ ∀ k, k < r → 0 < numS c k := by
  have ex : ∃ k, k ≤ m ∧ numS c k ≤ 0 := by
    refine Classical.byContradiction fun q => ?_
    have hp : ∀ k, k ≤ m → 0 < numS c k := fun k hk => Classical.byContradiction fun z => q ⟨k, hk, Rat.not_lt.mp z⟩
    exact absurd hm (Rat.not_le.mpr (numS_mono hcd m hp m (Nat.le_refl _)).1)
  obtain ⟨k, hk, pk⟩ := ex
  obtain ⟨r, h1, h2, h3⟩ := least_ex (P := fun k => numS c k ≤ 0) pk
  refine ⟨r, ?_, by omega, h2, fun k hk => Rat.not_le.mp (h3 k hk)⟩
  match r, h2 with
  | 0, h2 => exact absurd h2 (by show ¬ (1 : Rat) ≤ 0; decide +kernel)
  | 1, h2 => exact absurd h2 (by show ¬ (1 : Rat) ≤ 0; decide +kernel)
  | r + 2, _ => omega
theorem end_400 : numS (400 / 101) 31 ≤ 0 := by decide +kernel
theorem numS_rep (p q : Int) (c : Rat) (hc : c * (q : Rat) = (p : Rat)) (hp : p.natAbs < 2 ^ 24) (hq : q.natAbs < 2 ^ 24) : ∀ j : Nat, ∃ e o : Int, numS c (2 * j) * (q : Rat) ^ j = (e : Rat) ∧ numS c (2 * j + 1) * (q : Rat) ^ j = (o : Rat) ∧ e.natAbs ≤ 2 ^ (26 * j) ∧ o.natAbs ≤ 2 ^ (26 * j)
  | 0 => ⟨1, 1, by rw [Rat.pow_zero]; show (1 : Rat) * 1 = 1; decide +kernel, by rw [Rat.pow_zero]; show (1 : Rat) * 1 = 1; decide +kernel, Nat.le_refl _, Nat.le_refl _⟩
  | j + 1 => by
    obtain ⟨e, o, he, ho, le, lo⟩ := numS_rep p q c hc hp hq j
    have s1 : numS c (2 * (j + 1)) = numS c (2 * j + 1) * c - numS c (2 * j) := by
      have := numS_step c (2 * j)
      rw [if_pos (by omega)] at this; exact this
    have s2 : numS c (2 * (j + 1) + 1) = numS c (2 * (j + 1)) - numS c (2 * j + 1) := by
      have := numS_step c (2 * j + 1)
      rw [if_neg (by omega)] at this
      have e1 : 2 * j + 1 + 1 = 2 * (j + 1) := by omega
      have e2 : 2 * j + 1 + 2 = 2 * (j + 1) + 1 := by omega
      rw [e1, e2] at this; grind
    have pw : (q : Rat) ^ (j + 1) = (q : Rat) ^ j * (q : Rat) := Rat.pow_succ ..
    have h1 : numS c (2 * (j + 1)) * (q : Rat) ^ (j + 1) = ((o * p - e * q : Int) : Rat) := by
      rw [s1, pw, Rat.intCast_sub, Rat.intCast_mul, Rat.intCast_mul, ← hc, ← he, ← ho]; grind
    have pe : 2 ^ (26 * (j + 1)) = 2 ^ (26 * j) * 67108864 := by rw [Nat.mul_succ, Nat.pow_add]
    have l1 : (o * p).natAbs ≤ 2 ^ (26 * j) * 16777216 := by
      rw [Int.natAbs_mul]; exact Nat.mul_le_mul lo (by omega)
    have l2 : (e * q).natAbs ≤ 2 ^ (26 * j) * 16777216 := by
      rw [Int.natAbs_mul]; exact Nat.mul_le_mul le (by omega)
    have l3 : (o * q).natAbs ≤ 2 ^ (26 * j) * 16777216 := by
      rw [Int.natAbs_mul]; exact Nat.mul_le_mul lo (by omega)
    refine ⟨o * p - e * q, o * p - e * q - o * q, h1, ?_, ?_, ?_⟩
    · have h2 : numS c (2 * j + 1) * (q : Rat) ^ (j + 1) = ((o * q : Int) : Rat) := by rw [pw, Rat.intCast_mul, ← ho]; grind
      rw [s2, Rat.intCast_sub (o * p - e * q), ← h1, ← h2]; grind
    · rw [pe]; omega
    · rw [pe]; omega
theorem rep_div {x : Rat} {e Q : Int} (hQ : Q ≠ 0) (h : x * (Q : Rat) = (e : Rat)) : x = Rat.divInt e Q := by
  have hq : (Q : Rat) ≠ 0 := by
    intro z
    exact hQ (by exact_mod_cast z)
  rw [Rat.divInt_eq_div, ← h]
  grind
end DL
namespace DL
theorem num_den (c : Rat) : c * ((c.den : Int) : Rat) = (c.num : Rat) := by
  have h : c = (c.num : Rat) / ((c.den : Int) : Rat) := by
    rw [← Rat.divInt_eq_div, Rat.num_divInt_den]
  have hd : ((c.den : Int) : Rat) ≠ 0 := by
    intro z
    have : (c.den : Int) = 0 := by exact_mod_cast z
    have := c.den_pos
    omega
  conv => lhs; lhs; rw [h]
  grind
theorem numS_int {c : Rat} (hz : Sz 24 c) (k : Nat) : ∃ e : Int, numS c k * (((c.den : Int) ^ (k / 2) : Int) : Rat) = (e : Rat) ∧ e.natAbs ≤ 2 ^ (26 * (k / 2)) := by
  obtain ⟨e, o, h1, h2, h3, h4⟩ := numS_rep c.num c.den c (num_den c) hz.1 (by have := hz.2; omega) (k / 2)
  rw [Rat.intCast_pow]
  rcases Nat.mod_two_eq_zero_or_one k with hk | hk
  · have e1 : 2 * (k / 2) = k := by omega
    rw [e1] at h1
    exact ⟨e, h1, h3⟩
  · have e1 : 2 * (k / 2) + 1 = k := by omega
    rw [e1] at h2
    exact ⟨o, h2, h4⟩
theorem den_pow_pos (c : Rat) (j : Nat) : (0 : Int) < (c.den : Int) ^ j := Int.pow_pos (by have := c.den_pos; omega)
theorem den_pow_le {c : Rat} (hz : Sz 24 c) (j : Nat) : ((c.den : Int) ^ j).natAbs ≤ 2 ^ (24 * j) := by
  rw [Int.natAbs_pow, Nat.pow_mul]
  exact Nat.pow_le_pow_left (by have := hz.2; omega) j
theorem numS_sz {c : Rat} (hz : Sz 24 c) {k : Nat} (hk : k ≤ 100) : Sz SB (numS c k) := by
  obtain ⟨e, h1, h2⟩ := numS_int hz k
  rw [rep_div (Int.ne_of_gt (den_pow_pos c _)) h1]
  have SBe : SB = 2100 := rfl
  refine sz_divInt ?_ ?_ (by decide)
  · exact Nat.lt_of_le_of_lt h2 (Nat.pow_lt_pow_right (by decide) (by omega))
  · exact Nat.lt_of_le_of_lt (den_pow_le hz _) (Nat.pow_lt_pow_right (by decide) (by omega))
theorem numOk_of {c : Rat} (hz : Sz 24 c) (hc : c ≤ 400 / 101) : ∃ N, NumOk c N ∧ N ≤ 32 := by
  obtain ⟨r, h1, h2, h3, h4⟩ := numS_end hc end_400
  exact ⟨r + 1, ⟨by omega, by omega, fun k hk => h4 k (by omega), h3, fun k hk => numS_sz hz (by omega)⟩, by omega⟩
theorem numOk_eq {c : Rat} {N M : Nat} (h : NumOk c N) (h1 : numS c M ≤ 0) (h2 : ∀ k, k < M → 0 < numS c k) : N = M + 1 := by
  obtain ⟨a1, a2, a3, a4, _⟩ := h
  rcases Nat.lt_trichotomy (N - 1) M with q | q | q
  · exact absurd a4 (Rat.not_le.mpr (h2 _ q))
  · omega
  · exact absurd h1 (Rat.not_le.mpr (a3 M (by omega)))
theorem divInt_le {n d : Int} (hd : 0 < d) (h : 101 * n ≤ 400 * d) : Rat.divInt n d ≤ 400 / 101 := by
  rw [Rat.divInt_eq_div]
  have hd' : (0 : Rat) < (d : Rat) := by exact_mod_cast hd
  refine div_le_of hd' ?_
  have h' : (101 : Rat) * (n : Rat) ≤ 400 * (d : Rat) := by exact_mod_cast h
  grind
theorem lawW_le {a c : Option Int} {b : Int} (h : LawW a b c) : factor a b c ≤ 400 / 101 := by
  obtain ⟨⟨⟨b1, b2⟩, ha, hc, hac⟩, hh⟩ := h
  unfold factor
  cases a with
  | none => cases c with
    | none => simp at hac
    | some c =>
      obtain ⟨c1, c2⟩ := hc c rfl
      refine divInt_le (by show 0 < b + c; omega) (show 101 * (4 * c) ≤ 400 * (b + c) from ?_)
      rcases hh with ⟨h1, _, h3⟩ | h1
      · have := h3 c rfl; omega
      · omega
  | some a =>
    obtain ⟨a1, a2⟩ := ha a rfl
    cases c with
    | none =>
      refine divInt_le (by show 0 < a + b; omega) (show 101 * (4 * a) ≤ 400 * (a + b) from ?_)
      rcases hh with ⟨h1, h3, _⟩ | h1
      · have := h3 a rfl; omega
      · omega
    | some c =>
      obtain ⟨c1, c2⟩ := hc c rfl
      have hp : 0 < (a + b) * (b + c) := Int.mul_pos (by omega) (by omega)
      refine divInt_le hp (show 101 * (4 * a * c) ≤ 400 * ((a + b) * (b + c)) from ?_)
      have e1 : (a + b) * (b + c) = a * b + a * c + b * b + b * c := by grind
      have key : a * c ≤ 100 * (a * b) := by
        have : c ≤ 100 * b := by
          rcases hh with ⟨_, _, h3⟩ | h1
          · have := h3 c rfl; omega
          · omega
        have := Int.mul_le_mul_of_nonneg_left this (show 0 ≤ a by omega)
        grind
      have p1 : 0 ≤ b * b := Int.mul_nonneg (by omega) (by omega)
      have p2 : 0 ≤ b * c := Int.mul_nonneg (by omega) (by omega)
      have e2 : 101 * (4 * a * c) = 404 * (a * c) := by grind
      rw [e1, e2]; omega
theorem known_num : ∀ p ∈ known, factor p.1.1 p.1.2.1 p.1.2.2 ≤ 400 / 101 ∧ numS (factor p.1.1 p.1.2.1 p.1.2.2) (p.2 - 1) ≤ 0 ∧ (∀ k, k < p.2 - 1 → 0 < numS (factor p.1.1 p.1.2.1 p.1.2.2) k) ∧ 1 ≤ p.2 := by decide +kernel
theorem known_numOk (p : (Option Int × Int × Option Int) × Nat) (hp : p ∈ known) : NumOk (factor p.1.1 p.1.2.1 p.1.2.2) p.2 ∧ p.2 ≤ 32 := by
  obtain ⟨h0, h1, h2, h3⟩ := known_num p hp
  obtain ⟨N, hN, hN2⟩ := numOk_of (factor_sz (known_ok p hp)) h0
  have e := numOk_eq hN h1 h2
  have e2 : N = p.2 := by omega
  rw [← e2]; exact ⟨hN, hN2⟩
end DL
namespace DL
structure MK (k1 k2 c d : Rat) (N : Nat) : Prop where
  ck : c = k1 * k2
  p1 : 1 / 1000 ≤ k1
  q1 : k1 ≤ 2
  p2 : 1 / 1000 ≤ k2
  q2 : k2 ≤ 2
  c4 : c ≤ 4
  z : Sz 24 c
  n : NumOk c N
  n32 : N ≤ 32
  dh : 1 / 2 ≤ d
section
variable {k1 k2 c d e : Rat} {N : Nat}
theorem half_pos : (0 : Rat) < 1 / 2 := by decide +kernel
theorem mil_pos : (0 : Rat) < 1 / 1000 := by decide +kernel
theorem gs_e (k1 k2 d e : Rat) (k : Nat) : gs k1 k2 (-d) e k = e * gs k1 k2 0 1 k + d * gs k1 k2 (-1) 0 k := by
  rw [← gs_lin]
  have h1 : e * 0 + d * -1 = -d := by grind
  have h2 : e * 1 + d * 0 = e := by grind
  rw [h1, h2]
theorem fac_pos {k : Nat} {u : Rat} (h : 0 < u) : (0 : Rat) < (if k % 2 = 0 then 1 else u) := by
  split
  · decide +kernel
  · exact h
theorem MK.A_pos (m : MK k1 k2 c d N) {k : Nat} (hk : k + 1 < N) : 0 < gs k1 k2 0 1 (k + 1) := by
  rw [gs_A, ← m.ck]
  exact Rat.mul_pos (m.n.2.2.1 k hk) (fac_pos (by have := m.p1; have := mil_pos; grind))
theorem MK.B_pos (m : MK k1 k2 c d N) {k : Nat} (hk : k + 1 < N) : 0 < gs k1 k2 (-1) 0 (k + 2) := by
  rw [gs_B, ← m.ck]
  exact Rat.mul_pos (m.n.2.2.1 k hk) (fac_pos (by have := m.p2; have := mil_pos; grind))
theorem MK.e_pos (m : MK k1 k2 c d N) (he : 0 < e) {k : Nat} (h1 : 1 ≤ k) (hk : k < N) : 0 < gs k1 k2 (-d) e k := by
  have hd : 0 < d := by have := m.dh; have := half_pos; grind
  rw [gs_e]
  match k, h1 with
  | 1, _ =>
    have e1 : gs k1 k2 0 1 1 = 1 := rfl
    have e2 : gs k1 k2 (-1) 0 1 = 0 := rfl
    rw [e1, e2]; grind
  | k + 2, _ =>
    have a := Rat.mul_pos he (m.A_pos (k := k + 1) hk)
    have b := Rat.mul_pos hd (m.B_pos (k := k) (by omega))
    grind
theorem MK.e_after (m : MK k1 k2 c d N) (he : 0 < e) (h : 0 < gs k1 k2 (-d) e N) : gs k1 k2 (-d) e (N + 1) ≤ 0 := by
  have hN := m.n.1
  obtain ⟨n, rfl⟩ : ∃ n, N = n + 2 := ⟨N - 2, by omega⟩
  have hB : 0 < gs k1 k2 (-1) 0 (n + 2) := m.B_pos (by omega)
  have hB1 : gs k1 k2 (-1) 0 (n + 2 + 1) ≤ 0 := by
    have := gs_B k1 k2 (n + 1)
    rw [this, ← m.ck]
    have f := fac_pos (k := n + 1) (u := k2) (by have := m.p2; have := mil_pos; grind)
    have hn : numS c (n + 1) ≤ 0 := m.n.2.2.2.1
    have := Rat.mul_le_mul_of_nonneg_left hn (Rat.le_of_lt f)
    grind
  have w := gs_wr k1 k2 0 1 (-1) 0 (n + 2)
  rw [gs_e] at h ⊢
  have q := Rat.mul_le_mul_of_nonneg_left hB1 (Rat.le_of_lt h)
  refine Classical.byContradiction fun z => ?_
  have z := Rat.mul_pos (Rat.not_le.mp z) hB
  generalize gs k1 k2 (-1) 0 (n + 2 + 1) = B1 at *
  generalize gs k1 k2 (-1) 0 (n + 2) = B0 at *
  generalize gs k1 k2 0 1 (n + 2 + 1) = A1 at *
  generalize gs k1 k2 0 1 (n + 2) = A0 at *
  have w : B1 * A0 - B0 * A1 = 1 := by grind
  have : (e * A1 + d * B1) * B0 = B1 * (e * A0 + d * B0) - e := by grind
  grind
theorem numS_up (hc : c ≤ 4) {n : Nat} (hp : ∀ k, k ≤ n → 0 < numS c k) : ∀ k, k ≤ n → numS c k ≤ ((4 ^ k : Nat) : Rat) := by
  intro k
  refine two_ind (P := fun k => k ≤ n → numS c k ≤ ((4 ^ k : Nat) : Rat)) ?_ ?_ (fun k h1 h2 hk => ?_) k
  · intro _; show (1 : Rat) ≤ ((1 : Nat) : Rat); decide +kernel
  · intro _; show (1 : Rat) ≤ ((4 : Nat) : Rat); decide +kernel
  · have a := hp k (by omega)
    have b := hp (k + 1) (by omega)
    have u := h2 (by omega)
    have e1 : ((4 ^ (k + 2) : Nat) : Rat) = 4 * ((4 ^ (k + 1) : Nat) : Rat) := by
      rw [Nat.pow_succ 4 (k + 1), Rat.natCast_mul]; grind
    rw [numS_step, e1]
    split
    · have := Rat.mul_le_mul_of_nonneg_left hc (Rat.le_of_lt b)
      grind
    · grind
theorem nat_le {a b : Nat} (h : a ≤ b) : (a : Rat) ≤ (b : Rat) := by exact_mod_cast h
/-- slow enough: the last coming comes -/
theorem MK.e_big (m : MK k1 k2 c d N) (he : 0 < e) (hs : e * ((2 ^ 512 : Nat) : Rat) ≤ 1) : 0 < gs k1 k2 (-d) e N := by
  have hN := m.n.1
  obtain ⟨n, rfl⟩ : ∃ n, N = n + 3 := ⟨N - 3, by omega⟩
  have hpos : ∀ k, k ≤ n + 1 → 0 < numS c k := fun k hk => m.n.2.2.1 k (by omega)
  have hd : 0 < d := by have := m.dh; have := half_pos; grind
  rw [gs_e, gs_A, gs_B, ← m.ck]
  have f1 := fac_pos (k := n + 2) (u := k1) (by have := m.p1; have := mil_pos; grind)
  have g1 : (if (n + 2) % 2 = 0 then (1 : Rat) else k1) ≤ 2 := by
    split
    · decide +kernel
    · exact m.q1
  have g2 : 1 / 1000 ≤ (if (n + 1) % 2 = 0 then (1 : Rat) else k2) := by
    split
    · decide +kernel
    · exact m.p2
  generalize (if (n + 2) % 2 = 0 then (1 : Rat) else k1) = u at *
  generalize (if (n + 1) % 2 = 0 then (1 : Rat) else k2) = w at *
  -- from below
  have lo : -((4 ^ 32 : Nat) : Rat) ≤ numS c (n + 2) := by
    have a := hpos n (by omega)
    have b := hpos (n + 1) (by omega)
    have up := numS_up m.c4 (n := n + 1) hpos n (by omega)
    have n32 := m.n32
    have l := nat_le (Nat.pow_le_pow_right (n := 4) (by decide) (show n ≤ 32 by omega))
    rw [numS_step]
    have cp : 0 < c := by
      rw [m.ck]
      exact Rat.mul_pos (by have := m.p1; have := mil_pos; grind) (by have := m.p2; have := mil_pos; grind)
    split
    · have := Rat.mul_pos b cp
      grind
    · grind
  obtain ⟨x, hx, _⟩ := numS_int m.z (n + 1)
  have hQ := den_pow_pos c ((n + 1) / 2)
  have hQ2 := den_pow_le m.z ((n + 1) / 2)
  have hQ3 : ((c.den : Int) ^ ((n + 1) / 2)) ≤ ((2 ^ 400 : Nat) : Int) := by
    have n32 := m.n32
    have := Nat.pow_le_pow_right (n := 2) (by decide) (show 24 * ((n + 1) / 2) ≤ 400 by omega)
    have h3 := Nat.le_trans hQ2 this
    omega
  generalize ((c.den : Int) ^ ((n + 1) / 2)) = Q at *
  have s0 := hpos (n + 1) (Nat.le_refl _)
  generalize numS c (n + 1) = s at *
  generalize numS c (n + 2) = t at *
  have Qp : (0 : Rat) < (Q : Rat) := by exact_mod_cast hQ
  have Qu : (Q : Rat) ≤ ((2 ^ 400 : Nat) : Rat) := by exact_mod_cast hQ3
  have x1 : (1 : Rat) ≤ (x : Rat) := by
    have : (0 : Rat) < (x : Rat) := by rw [← hx]; exact Rat.mul_pos s0 Qp
    have : 0 < x := by exact_mod_cast this
    have : 1 ≤ x := by omega
    exact_mod_cast this
  -- all times Q
  refine pos_of_mul Qp ?_
  have a1 : d * (1 / 1000) ≤ d * (s * w) * (Q : Rat) := by
    have p : (1 : Rat) / 1000 ≤ s * w * (Q : Rat) := by
      have := Rat.mul_le_mul_of_nonneg_left g2 (Rat.le_of_lt (Rat.mul_pos s0 Qp))
      have h5 : s * (Q : Rat) * (1 / 1000) = (x : Rat) * (1 / 1000) := by rw [hx]
      grind
    have := Rat.mul_le_mul_of_nonneg_left p (Rat.le_of_lt hd)
    grind
  have hb : (1 : Rat) / 2000 ≤ d * (1 / 1000) := by have := m.dh; grind
  have a2 : -(e * (2 * ((4 ^ 32 : Nat) : Rat)) * ((2 ^ 400 : Nat) : Rat)) ≤ e * (t * u) * (Q : Rat) := by
    have h1 : -(((4 ^ 32 : Nat) : Rat) * 2) ≤ t * u := by
      have := Rat.mul_le_mul_of_nonneg_left lo (Rat.le_of_lt f1)
      have h4 : (0 : Rat) ≤ ((4 ^ 32 : Nat) : Rat) := by decide +kernel
      have := Rat.mul_le_mul_of_nonneg_left g1 h4
      grind
    have h2 := Rat.mul_le_mul_of_nonneg_left h1 (Rat.le_of_lt (Rat.mul_pos he Qp))
    have h4 : (0 : Rat) ≤ e * (2 * ((4 ^ 32 : Nat) : Rat)) := Rat.mul_nonneg (Rat.le_of_lt he) (by decide +kernel)
    have h3 := Rat.mul_le_mul_of_nonneg_left Qu h4
    grind
  have a3 : e * (2 * ((4 ^ 32 : Nat) : Rat)) * ((2 ^ 400 : Nat) : Rat) ≤ 1 / 2001 := by
    have k0 : (2 * ((4 ^ 32 : Nat) : Rat)) * ((2 ^ 400 : Nat) : Rat) ≤ ((2 ^ 512 : Nat) : Rat) * (1 / 2001) := by decide +kernel
    have := Rat.mul_le_mul_of_nonneg_left k0 (Rat.le_of_lt he)
    have h6 : e * ((2 ^ 512 : Nat) : Rat) * (1 / 2001) ≤ 1 * (1 / 2001) := by
      have := Rat.mul_le_mul_of_nonneg_left hs (show (0 : Rat) ≤ 1 / 2001 by decide +kernel)
      grind
    grind
  have fin : (1 : Rat) / 2001 < 1 / 2000 := by decide +kernel
  grind
/-- how many come -/
def cnt (k1 k2 d e : Rat) (N : Nat) : Nat := if 0 < gs k1 k2 (-d) e N then N else N - 1
theorem MK.cnt_pos (m : MK k1 k2 c d N) (he : 0 < e) : ∀ k, 1 ≤ k → k ≤ cnt k1 k2 d e N → 0 < gs k1 k2 (-d) e k := by
  intro k h1 h2
  unfold cnt at h2
  have hN := m.n.1
  split at h2
  · by_cases q : k = N
    · subst q; assumption
    · exact m.e_pos he h1 (by omega)
  · exact m.e_pos he h1 (by omega)
theorem MK.cnt_end (m : MK k1 k2 c d N) (he : 0 < e) : gs k1 k2 (-d) e (cnt k1 k2 d e N + 1) ≤ 0 := by
  unfold cnt
  have hN := m.n.1
  split
  · exact m.e_after he ‹_›
  · have e1 : N - 1 + 1 = N := by omega
    rw [e1]; exact Rat.not_lt.mp ‹_›
theorem MK.cnt_le (m : MK k1 k2 c d N) : 2 ≤ cnt k1 k2 d e N ∧ cnt k1 k2 d e N ≤ 32 := by
  have := m.n.1
  have := m.n32
  unfold cnt; split <;> omega
end
end DL
namespace DL
inductive Var | vn | vl | vh
structure Tr where
  x : Rat
  y : Rat
  z : Rat
structure Cf where
  al : Rat
  al' : Rat
  be : Rat
  be' : Rat
def Tr.on (a v : Tr) (t : Rat) : Tr := ⟨a.x + v.x * t, a.y + v.y * t, a.z + v.z * t⟩
def refl (c : Cf) (left : Bool) (t : Tr) : Tr := if left then ⟨t.x + c.al' * (t.y - t.x), t.y - c.al * (t.y - t.x), t.z⟩ else ⟨t.x, t.y + c.be * (t.z - t.y), t.z - c.be' * (t.z - t.y)⟩
def nxt (left : Bool) (t : Tr) : Rat := if left then t.y - t.x else t.z - t.y
def oth (left : Bool) (t : Tr) : Rat := if left then t.z - t.y else t.y - t.x
def side (f : Bool) (k : Nat) : Bool := if k % 2 = 0 then f else !f
def zs (c : Cf) (f : Bool) (z0 : Tr) : Nat → Tr
  | 0 => z0
  | k + 1 => refl c (side f k) (zs c f z0 k)
structure CfOk (c : Cf) : Prop where
  l : c.al + c.al' = 2
  r : c.be + c.be' = 2
theorem side_succ (f : Bool) (k : Nat) : side f (k + 1) = !side f k := by
  unfold side
  by_cases h : k % 2 = 0
  · have h2 : ¬ (k + 1) % 2 = 0 := by omega
    rw [if_pos h, if_neg h2]
  · have h2 : (k + 1) % 2 = 0 := by omega
    rw [if_neg h, if_pos h2, Bool.not_not]
def kp1 (c : Cf) (f : Bool) : Rat := if f then c.al else c.be
def kp2 (c : Cf) (f : Bool) : Rat := if f then c.be else c.al
theorem nxt_refl (c : Cf) (s : Bool) (t : Tr) : nxt (!s) (refl c s t) = oth s t + (if s then c.al else c.be) * nxt s t := by
  cases s
  · show (t.y + c.be * (t.z - t.y)) - t.x = (t.y - t.x) + c.be * (t.z - t.y); grind
  · show t.z - (t.y - c.al * (t.y - t.x)) = (t.z - t.y) + c.al * (t.y - t.x); grind
theorem oth_refl {c : Cf} (h : CfOk c) (s : Bool) (t : Tr) : oth (!s) (refl c s t) = -nxt s t := by
  obtain ⟨h1, h2⟩ := h
  cases s
  · show (t.z - c.be' * (t.z - t.y)) - (t.y + c.be * (t.z - t.y)) = -(t.z - t.y); grind
  · show (t.y - c.al * (t.y - t.x)) - (t.x + c.al' * (t.y - t.x)) = -(t.y - t.x); grind
theorem zs_gs {c : Cf} (h : CfOk c) (f : Bool) (z0 : Tr) : ∀ k, nxt (side f k) (zs c f z0 k) = gs (kp1 c f) (kp2 c f) (-oth f z0) (nxt f z0) (k + 1) ∧ oth (side f k) (zs c f z0 k) = -gs (kp1 c f) (kp2 c f) (-oth f z0) (nxt f z0) k
  | 0 => ⟨rfl, by show oth f z0 = - -oth f z0; grind⟩
  | k + 1 => by
    obtain ⟨h1, h2⟩ := zs_gs h f z0 k
    rw [side_succ]
    have e : zs c f z0 (k + 1) = refl c (side f k) (zs c f z0 k) := rfl
    rw [e, nxt_refl, oth_refl h, h1, h2, gs_step]
    have ek : (if side f k = true then c.al else c.be) = kap (kp1 c f) (kp2 c f) k := by
      unfold side kap kp1 kp2
      by_cases q : k % 2 = 0
      · rw [if_pos q, if_pos q]
      · rw [if_neg q, if_neg q]; cases f <;> rfl
    rw [ek]
    exact ⟨by grind, rfl⟩
/-- what is alike stays -/
theorem refl_same {c : Cf} {s : Bool} {t : Tr} (h : nxt s t = 0) : refl c s t = t := by
  cases s
  · have h : t.z - t.y = 0 := h
    show (⟨t.x, t.y + c.be * (t.z - t.y), t.z - c.be' * (t.z - t.y)⟩ : Tr) = t
    rw [h]
    have e1 : t.y + c.be * 0 = t.y := by grind
    have e2 : t.z - c.be' * 0 = t.z := by grind
    rw [e1, e2]
  · have h : t.y - t.x = 0 := h
    show (⟨t.x + c.al' * (t.y - t.x), t.y - c.al * (t.y - t.x), t.z⟩ : Tr) = t
    rw [h]
    have e1 : t.x + c.al' * 0 = t.x := by grind
    have e2 : t.y - c.al * 0 = t.y := by grind
    rw [e1, e2]
theorem refl_on (c : Cf) (s : Bool) (a v : Tr) (t : Rat) : (refl c s a).on (refl c s v) t = refl c s (a.on v t) := by
  cases s
  · show (⟨_, _, _⟩ : Tr) = ⟨_, _, _⟩
    congr 1
    · show a.y + c.be * (a.z - a.y) + (v.y + c.be * (v.z - v.y)) * t = (a.y + v.y * t) + c.be * ((a.z + v.z * t) - (a.y + v.y * t)); grind
    · show a.z - c.be' * (a.z - a.y) + (v.z - c.be' * (v.z - v.y)) * t = (a.z + v.z * t) - c.be' * ((a.z + v.z * t) - (a.y + v.y * t)); grind
  · show (⟨_, _, _⟩ : Tr) = ⟨_, _, _⟩
    congr 1
    · show a.x + c.al' * (a.y - a.x) + (v.x + c.al' * (v.y - v.x)) * t = (a.x + v.x * t) + c.al' * ((a.y + v.y * t) - (a.x + v.x * t)); grind
    · show a.y - c.al * (a.y - a.x) + (v.y - c.al * (v.y - v.x)) * t = (a.y + v.y * t) - c.al * ((a.y + v.y * t) - (a.x + v.x * t)); grind
theorem nxt_on (s : Bool) (a v : Tr) (t : Rat) : nxt s (a.on v t) = nxt s a + nxt s v * t := by
  cases s
  · show (a.z + v.z * t) - (a.y + v.y * t) = (a.z - a.y) + (v.z - v.y) * t; grind
  · show (a.y + v.y * t) - (a.x + v.x * t) = (a.y - a.x) + (v.y - v.x) * t; grind
theorem oth_on (s : Bool) (a v : Tr) (t : Rat) : oth s (a.on v t) = oth s a + oth s v * t := by
  cases s
  · show (a.y + v.y * t) - (a.x + v.x * t) = (a.y - a.x) + (v.y - v.x) * t; grind
  · show (a.z + v.z * t) - (a.y + v.y * t) = (a.z - a.y) + (v.z - v.y) * t; grind
theorem on_on (a v : Tr) (s t : Rat) : (a.on v s).on v t = a.on v (s + t) := by
  show (⟨_, _, _⟩ : Tr) = ⟨_, _, _⟩
  congr 1
  · show a.x + v.x * s + v.x * t = a.x + v.x * (s + t); grind
  · show a.y + v.y * s + v.y * t = a.y + v.y * (s + t); grind
  · show a.z + v.z * s + v.z * t = a.z + v.z * (s + t); grind
def vRow : Var → Int → Int → Int → Tr → Tr → List Ball
  | .vn, m1, m2, m3, p, v => [⟨p.x, v.x, m1⟩, ⟨p.y, v.y, m2⟩, ⟨p.z, v.z, m3⟩]
  | .vl, _, m2, m3, p, v => [⟨p.y, v.y, m2⟩, ⟨p.z, v.z, m3⟩]
  | .vh, m1, m2, _, p, v => [⟨p.x, v.x, m1⟩, ⟨p.y, v.y, m2⟩]
def vWls : Var → Wls
  | .vn => ⟨none, none⟩
  | .vl => ⟨some (0, 0), none⟩
  | .vh => ⟨none, some (0, 0)⟩
def vCf : Var → Int → Int → Int → Cf
  | .vn, m1, m2, m3 => ⟨2 * m1 / (m1 + m2), 2 * m2 / (m1 + m2), 2 * m3 / (m2 + m3), 2 * m2 / (m2 + m3)⟩
  | .vl, _, m2, m3 => ⟨2, 0, 2 * m3 / (m2 + m3), 2 * m2 / (m2 + m3)⟩
  | .vh, m1, m2, _ => ⟨2 * m1 / (m1 + m2), 2 * m2 / (m1 + m2), 2, 0⟩
def vGrp : Var → Bool → Group
  | .vn, true => ⟨0, 1, .no⟩
  | .vn, false => ⟨1, 2, .no⟩
  | .vl, true => ⟨0, 0, .low⟩
  | .vl, false => ⟨0, 1, .no⟩
  | .vh, true => ⟨0, 1, .no⟩
  | .vh, false => ⟨1, 1, .high⟩
/-- a wall stands -/
def vSt : Var → Tr → Prop
  | .vn, _ => True
  | .vl, t => t.x = 0
  | .vh, t => t.z = 0
theorem vSt_refl {V : Var} {m1 m2 m3 : Int} {s : Bool} {t : Tr} (h : vSt V t) : vSt V (refl (vCf V m1 m2 m3) s t) := by
  cases V with
  | vn => trivial
  | vl =>
    have h : t.x = 0 := h
    cases s
    · exact h
    · show t.x + (0 : Rat) * (t.y - t.x) = 0; grind
  | vh =>
    have h : t.z = 0 := h
    cases s
    · show t.z - (0 : Rat) * (t.z - t.y) = 0; grind
    · exact h
theorem vSt_on {V : Var} {a v : Tr} {t : Rat} (h1 : vSt V a) (h2 : vSt V v) : vSt V (a.on v t) := by
  cases V with
  | vn => trivial
  | vl =>
    have h1 : a.x = 0 := h1
    have h2 : v.x = 0 := h2
    show a.x + v.x * t = 0; grind
  | vh =>
    have h1 : a.z = 0 := h1
    have h2 : v.z = 0 := h2
    show a.z + v.z * t = 0; grind
theorem things_v {V : Var} {m1 m2 m3 : Int} {p v : Tr} (h1 : vSt V p) (h2 : vSt V v) : things (vRow V m1 m2 m3 p v) (vWls V) = [(p.x, v.x), (p.y, v.y), (p.z, v.z)] := by
  cases V with
  | vn => rfl
  | vl =>
    have h1 : p.x = 0 := h1
    have h2 : v.x = 0 := h2
    rw [h1, h2]; rfl
  | vh =>
    have h1 : p.z = 0 := h1
    have h2 : v.z = 0 := h2
    rw [h1, h2]; rfl
theorem row_at_v {V : Var} {m1 m2 m3 : Int} {p v : Tr} {t : Rat} : (vRow V m1 m2 m3 p v).map (·.at t) = vRow V m1 m2 m3 (p.on v t) v := by cases V <;> rfl
theorem wls_at_v {V : Var} {t : Rat} : (vWls V).at t = vWls V := by
  have e : (0 : Rat) + 0 * t = 0 := by grind
  cases V with
  | vn => rfl
  | vl => show (⟨some (0 + 0 * t, 0), none⟩ : Wls) = _; rw [e]; rfl
  | vh => show (⟨none, some (0 + 0 * t, 0)⟩ : Wls) = _; rw [e]; rfl
end DL
namespace DL
theorem groups_v {V : Var} {m1 m2 m3 : Int} {p v : Tr} {s : Bool} (hp : vSt V p) (hv : vSt V v) (h0 : nxt s p = 0) (h1 : 0 < oth s p) (h2 : nxt s v < 0) : groupsAt (vRow V m1 m2 m3 p v) (vWls V) = [vGrp V s] := by
  unfold groupsAt
  cases V <;> cases s
  · have h0 : p.z - p.y = 0 := h0
    have h1 : 0 < p.y - p.x := h1
    have e1 : p.z = p.y := by grind
    have e2 : ¬ p.y = p.x := by grind
    simp [vRow, vWls, vGrp, groupsFrom_cons, lastOf, wallThere, isAt, comesTo, e1, e2, groupsFrom]
  · have h0 : p.y - p.x = 0 := h0
    have h1 : 0 < p.z - p.y := h1
    have e1 : p.y = p.x := by grind
    have e2 : ¬ p.z = p.x := by grind
    simp [vRow, vWls, vGrp, groupsFrom_cons, lastOf, wallThere, isAt, comesTo, e1, e2, groupsFrom]
  · have hp : p.x = 0 := hp
    have h0 : p.z - p.y = 0 := h0
    have h1 : 0 < p.y - p.x := h1
    have e1 : p.z = p.y := by grind
    have e2 : ¬ (0 : Rat) = p.y := by grind
    simp [vRow, vWls, vGrp, groupsFrom_cons, lastOf, wallThere, isAt, comesTo, e1, e2, groupsFrom]
  · have hp : p.x = 0 := hp
    have hv : v.x = 0 := hv
    have h0 : p.y - p.x = 0 := h0
    have h1 : 0 < p.z - p.y := h1
    have h2 : v.y - v.x < 0 := h2
    have e1 : p.y = 0 := by grind
    have e2 : ¬ p.z = 0 := by grind
    have e4 : ¬ (0 : Rat) = p.z := by grind
    have e3 : v.y < 0 := by grind
    simp [vRow, vWls, vGrp, groupsFrom_cons, lastOf, wallThere, isAt, comesTo, e1, e2, e3, e4, groupsFrom]
  · have hp : p.z = 0 := hp
    have hv : v.z = 0 := hv
    have h0 : p.z - p.y = 0 := h0
    have h1 : 0 < p.y - p.x := h1
    have h2 : v.z - v.y < 0 := h2
    have e1 : p.y = 0 := by grind
    have e2 : ¬ (0 : Rat) = p.x := by grind
    have e3 : 0 < v.y := by grind
    simp [vRow, vWls, vGrp, groupsFrom_cons, lastOf, wallThere, isAt, comesTo, e1, e2, e3, groupsFrom]
  · have hp : p.z = 0 := hp
    have h0 : p.y - p.x = 0 := h0
    have h1 : 0 < p.z - p.y := h1
    have e1 : p.y = p.x := by grind
    have e2 : ¬ (0 : Rat) = p.x := by grind
    simp [vRow, vWls, vGrp, groupsFrom_cons, lastOf, wallThere, isAt, comesTo, e1, e2, groupsFrom]
/-- the speeds behind -/
def vQs : Var → Bool → Tr → List Rat
  | .vn, true, r => [r.x, r.y]
  | .vn, false, r => [r.y, r.z]
  | .vl, true, r => [r.y]
  | .vl, false, r => [r.y, r.z]
  | .vh, true, r => [r.x, r.y]
  | .vh, false, r => [r.y]
theorem two_l {pa va pb vb : Rat} {m n : Int} : twoSpeeds ⟨pa, va, m⟩ ⟨pb, vb, n⟩ = [va + 2 * (n : Rat) / ((m : Rat) + n) * (vb - va), vb - 2 * (m : Rat) / ((m : Rat) + n) * (vb - va)] := by
  show [va - 2 * (n : Rat) * (va - vb) / ((m : Rat) + n), vb + 2 * (m : Rat) * (va - vb) / ((n : Rat) + m)] = _
  have e1 : va - 2 * (n : Rat) * (va - vb) / ((m : Rat) + n) = va + 2 * (n : Rat) / ((m : Rat) + n) * (vb - va) := by
    rw [Rat.div_def, Rat.div_def]; grind
  have e2 : vb + 2 * (m : Rat) * (va - vb) / ((n : Rat) + m) = vb - 2 * (m : Rat) / ((m : Rat) + n) * (vb - va) := by
    rw [Rat.div_def, Rat.div_def, Rat.add_comm (n : Rat)]; grind
  rw [e1, e2]
theorem dealt_v {V : Var} {m1 m2 m3 : Int} {p v : Tr} {s : Bool} (hv : vSt V v) : dealt (slice (vRow V m1 m2 m3 p v) (vGrp V s)) (wallNamed (vWls V) (vGrp V s).wh) = some (vQs V s (refl (vCf V m1 m2 m3) s v)) := by
  cases V <;> cases s
  · show some (twoSpeeds ⟨p.y, v.y, m2⟩ ⟨p.z, v.z, m3⟩) = _
    rw [two_l]
    have e1 : v.y + 2 * (m3 : Rat) / ((m2 : Rat) + m3) * (v.z - v.y) = v.y + 2 * (m3 : Rat) / ((m2 : Rat) + m3) * (v.z - v.y) := rfl
    rfl
  · show some (twoSpeeds ⟨p.x, v.x, m1⟩ ⟨p.y, v.y, m2⟩) = _
    rw [two_l]; rfl
  · show some (twoSpeeds ⟨p.y, v.y, m2⟩ ⟨p.z, v.z, m3⟩) = _
    rw [two_l]; rfl
  · have hv : v.x = 0 := hv
    show some [2 * 0 - v.y] = some [v.y - 2 * (v.y - v.x)]
    have : 2 * 0 - v.y = v.y - 2 * (v.y - v.x) := by grind
    rw [this]
  · have hv : v.z = 0 := hv
    show some [2 * 0 - v.y] = some [v.y + 2 * (v.z - v.y)]
    have : 2 * 0 - v.y = v.y + 2 * (v.z - v.y) := by grind
    rw [this]
  · show some (twoSpeeds ⟨p.x, v.x, m1⟩ ⟨p.y, v.y, m2⟩) = _
    rw [two_l]; rfl
theorem put_v {V : Var} {m1 m2 m3 : Int} {p v : Tr} {c : Cf} {s : Bool} : putSpeeds (vRow V m1 m2 m3 p v) (vGrp V s).first (vQs V s (refl c s v)) = vRow V m1 m2 m3 p (refl c s v) := by
  cases V <;> cases s <;> rfl
def SzTr (n : Nat) (t : Tr) : Prop := Sz n t.x ∧ Sz n t.y ∧ Sz n t.z
theorem row_sz_v {V : Var} {m1 m2 m3 : Int} {p v : Tr} (hp : SzTr SB p) (hv : SzTr SB v) : RowSz (vRow V m1 m2 m3 p v) := by
  obtain ⟨p1, p2, p3⟩ := hp
  obtain ⟨v1, v2, v3⟩ := hv
  cases V with
  | vn => exact ⟨by show 3 ≤ 1000; decide, fun b hb => by
      simp only [vRow, List.mem_cons, List.not_mem_nil, or_false] at hb
      rcases hb with rfl | rfl | rfl
      · exact ⟨p1, v1⟩
      · exact ⟨p2, v2⟩
      · exact ⟨p3, v3⟩⟩
  | vl => exact ⟨by show 2 ≤ 1000; decide, fun b hb => by
      simp only [vRow, List.mem_cons, List.not_mem_nil, or_false] at hb
      rcases hb with rfl | rfl
      · exact ⟨p2, v2⟩
      · exact ⟨p3, v3⟩⟩
  | vh => exact ⟨by show 2 ≤ 1000; decide, fun b hb => by
      simp only [vRow, List.mem_cons, List.not_mem_nil, or_false] at hb
      rcases hb with rfl | rfl
      · exact ⟨p1, v1⟩
      · exact ⟨p2, v2⟩⟩
def vWOk : Var → Int → Int → Int → Prop
  | .vn, a, b, c => wOk a ∧ wOk b ∧ wOk c
  | .vl, _, b, c => wOk b ∧ wOk c
  | .vh, a, b, _ => wOk a ∧ wOk b
theorem row_w_v {V : Var} {m1 m2 m3 : Int} {p v : Tr} (h : vWOk V m1 m2 m3) : WOk (vRow V m1 m2 m3 p v) := by
  intro b hb
  cases V with
  | vn =>
    obtain ⟨h1, h2, h3⟩ := h
    simp only [vRow, List.mem_cons, List.not_mem_nil, or_false] at hb
    rcases hb with rfl | rfl | rfl
    · exact h1
    · exact h2
    · exact h3
  | vl =>
    obtain ⟨h2, h3⟩ := h
    simp only [vRow, List.mem_cons, List.not_mem_nil, or_false] at hb
    rcases hb with rfl | rfl
    · exact h2
    · exact h3
  | vh =>
    obtain ⟨h1, h2⟩ := h
    simp only [vRow, List.mem_cons, List.not_mem_nil, or_false] at hb
    rcases hb with rfl | rfl
    · exact h1
    · exact h2
theorem sz_zero {n : Nat} (h : 0 < n) : Sz n (0 : Rat) := ⟨by show 0 < 2 ^ n; exact Nat.pow_pos (by decide), by show 1 < 2 ^ n; exact Nat.one_lt_two_pow (by omega)⟩
theorem wls_sz_v (V : Var) : WlsSz (vWls V) := by
  have z : Sz SB (0 : Rat) := sz_zero (by decide)
  cases V with
  | vn => exact ⟨(fun _ h => nomatch h), (fun _ h => nomatch h)⟩
  | vl => exact ⟨(fun x h => by cases h; exact ⟨z, z⟩), (fun _ h => nomatch h)⟩
  | vh => exact ⟨(fun _ h => nomatch h), (fun x h => by cases h; exact ⟨z, z⟩)⟩
theorem qs_sz {V : Var} {s : Bool} {r : Tr} (h : SzTr SB r) : ∀ q ∈ vQs V s r, Sz SB q := by
  obtain ⟨h1, h2, h3⟩ := h
  intro q hq
  cases V <;> cases s <;> simp only [vQs, List.mem_cons, List.not_mem_nil, or_false] at hq
  · rcases hq with rfl | rfl <;> assumption
  · rcases hq with rfl | rfl <;> assumption
  · rcases hq with rfl | rfl <;> assumption
  · rw [hq]; assumption
  · rw [hq]; assumption
  · rcases hq with rfl | rfl <;> assumption
theorem grp_in {V : Var} {m1 m2 m3 : Int} {p v : Tr} {s : Bool} : (vGrp V s).first ≤ (vGrp V s).last ∧ (vGrp V s).last < (vRow V m1 m2 m3 p v).length := by
  cases V <;> cases s <;> exact ⟨by decide, by show _ < _; simp [vRow, vGrp]⟩
/-- one coming -/
theorem comes_v {V : Var} {m1 m2 m3 : Int} {p v : Tr} {s : Bool} {t f : Rat} {cs : List (Rat × Group)} (hp : vSt V p) (hv : vSt V v) (h0 : nxt s (p.on v f) = 0) (h1 : 0 < oth s (p.on v f)) (h2 : nxt s v < 0)
    (zq : SzTr SB (p.on v f)) (zv : SzTr SB v) (zr : SzTr SB (refl (vCf V m1 m2 m3) s v)) (zt : Sz SB (t + f)) (hc : cs.length < 400) :
    Comes ⟨vRow V m1 m2 m3 p v, vWls V, t, cs⟩ f ⟨vRow V m1 m2 m3 (p.on v f) (refl (vCf V m1 m2 m3) s v), vWls V, t + f, cs ++ [(t + f, vGrp V s)]⟩ := by
  have er : ((⟨vRow V m1 m2 m3 p v, vWls V, t, cs⟩ : Run).goes f).r = vRow V m1 m2 m3 (p.on v f) v := row_at_v
  have ew : ((⟨vRow V m1 m2 m3 p v, vWls V, t, cs⟩ : Run).goes f).w = vWls V := wls_at_v
  have eg : groupsAt (vRow V m1 m2 m3 (p.on v f) v) (vWls V) = [vGrp V s] := groups_v (vSt_on hp hv) hv h0 h1 h2
  have ed := dealt_v (m1 := m1) (m2 := m2) (m3 := m3) (p := p.on v f) (s := s) hv
  have eq : rebounded (vWls V) (vRow V m1 m2 m3 (p.on v f) v) [vGrp V s] = some (vRow V m1 m2 m3 (p.on v f) (refl (vCf V m1 m2 m3) s v)) := by
    show (rebound1 (vWls V) (vRow V m1 m2 m3 (p.on v f) v) (vGrp V s)).bind (fun r => rebounded (vWls V) r []) = _
    unfold rebound1
    rw [show ((vRow V m1 m2 m3 (p.on v f) v).drop (vGrp V s).first).take ((vGrp V s).last + 1 - (vGrp V s).first) = slice (vRow V m1 m2 m3 (p.on v f) v) (vGrp V s) from rfl, ed, Option.map_some, put_v]
    rfl
  unfold Comes GoSz
  rw [er, ew, eg]
  obtain ⟨g1, g2⟩ := grp_in (V := V) (m1 := m1) (m2 := m2) (m3 := m3) (p := p.on v f) (v := v) (s := s)
  refine ⟨⟨row_sz_v zq zv, wls_sz_v V, zt⟩, by show 1 ≤ 1000; decide, ⟨g1, g2, _, ed, qs_sz zr, trivial⟩, rfl, rfl, eq, rfl, ?_⟩
  show (cs ++ [_]).length ≤ 400
  rw [List.length_append]
  show cs.length + 1 ≤ 400
  omega
end DL
namespace DL
set_option exponentiation.threshold 3000
def Rp (D : Int) (M : Nat) (t : Tr) : Prop := ∃ i j k : Int, t.x * (D : Rat) = i ∧ t.y * (D : Rat) = j ∧ t.z * (D : Rat) = k ∧ i.natAbs ≤ M ∧ j.natAbs ≤ M ∧ k.natAbs ≤ M
structure CfI (c : Cf) : Prop where
  l : ∃ w a a' : Int, 0 < w ∧ w ≤ 2048 ∧ c.al * (w : Rat) = a ∧ c.al' * (w : Rat) = a' ∧ a.natAbs ≤ 2048 ∧ a'.natAbs ≤ 2048
  r : ∃ w a a' : Int, 0 < w ∧ w ≤ 2048 ∧ c.be * (w : Rat) = a ∧ c.be' * (w : Rat) = a' ∧ a.natAbs ≤ 2048 ∧ a'.natAbs ≤ 2048
theorem mul_bd {a i : Int} {A M : Nat} (h1 : a.natAbs ≤ A) (h2 : i.natAbs ≤ M) : (a * i).natAbs ≤ A * M := by
  rw [Int.natAbs_mul]; exact Nat.mul_le_mul h1 h2
theorem comb {w a i j : Int} {M : Nat} (hw : w.natAbs ≤ 2048) (ha : a.natAbs ≤ 2048) (hi : i.natAbs ≤ M) (hj : j.natAbs ≤ M) : (w * i + a * (j - i)).natAbs ≤ 8192 * M ∧ (w * j - a * (j - i)).natAbs ≤ 8192 * M := by
  have h1 := mul_bd hw hi
  have h2 := mul_bd hw hj
  have h3 : (j - i).natAbs ≤ 2 * M := by omega
  have h4 := mul_bd ha h3
  have e : 2048 * (2 * M) = 4096 * M := by omega
  rw [e] at h4
  omega
theorem rp_refl {c : Cf} (hc : CfI c) (s : Bool) {D : Int} (hD : 0 < D) : ∃ w : Int, 0 < w ∧ w ≤ 2048 ∧ ∀ (M : Nat) (t : Tr), Rp D M t → Rp (w * D) (8192 * M) (refl c s t) := by
  cases s
  · obtain ⟨w, a, a', hw, hw2, e1, e2, ha, ha'⟩ := hc.r
    refine ⟨w, hw, hw2, fun M t ⟨i, j, k, h1, h2, h3, b1, b2, b3⟩ => ?_⟩
    have c1 := comb (w := w) (a := a) (i := j) (j := k) (M := M) (by omega) ha b2 b3
    have c2 := comb (w := w) (a := a') (i := j) (j := k) (M := M) (by omega) ha' b2 b3
    have c3 := mul_bd (a := w) (i := i) (A := 2048) (M := M) (by omega) b1
    refine ⟨w * i, w * j + a * (k - j), w * k - a' * (k - j), ?_, ?_, ?_, by omega, c1.1, c2.2⟩
    · show t.x * _ = _
      rw [Rat.intCast_mul, Rat.intCast_mul, ← h1]; grind
    · show (t.y + c.be * (t.z - t.y)) * _ = _
      rw [Rat.intCast_mul, Rat.intCast_add, Rat.intCast_mul, Rat.intCast_mul, Rat.intCast_sub, ← h2, ← h3, ← e1]; grind
    · show (t.z - c.be' * (t.z - t.y)) * _ = _
      rw [Rat.intCast_mul, Rat.intCast_sub, Rat.intCast_mul, Rat.intCast_mul, Rat.intCast_sub, ← h2, ← h3, ← e2]; grind
  · obtain ⟨w, a, a', hw, hw2, e1, e2, ha, ha'⟩ := hc.l
    refine ⟨w, hw, hw2, fun M t ⟨i, j, k, h1, h2, h3, b1, b2, b3⟩ => ?_⟩
    have c1 := comb (w := w) (a := a) (i := i) (j := j) (M := M) (by omega) ha b1 b2
    have c2 := comb (w := w) (a := a') (i := i) (j := j) (M := M) (by omega) ha' b1 b2
    have c3 := mul_bd (a := w) (i := k) (A := 2048) (M := M) (by omega) b3
    refine ⟨w * i + a' * (j - i), w * j - a * (j - i), w * k, ?_, ?_, ?_, c2.1, c1.2, by omega⟩
    · show (t.x + c.al' * (t.y - t.x)) * _ = _
      rw [Rat.intCast_mul, Rat.intCast_add, Rat.intCast_mul, Rat.intCast_mul, Rat.intCast_sub, ← h1, ← h2, ← e2]; grind
    · show (t.y - c.al * (t.y - t.x)) * _ = _
      rw [Rat.intCast_mul, Rat.intCast_sub, Rat.intCast_mul, Rat.intCast_mul, Rat.intCast_sub, ← h1, ← h2, ← e1]; grind
    · show t.z * _ = _
      rw [Rat.intCast_mul, Rat.intCast_mul, ← h3]; grind
theorem rp_zs {c : Cf} (hc : CfI c) (f : Bool) {a v : Tr} {D0 : Int} {M0 : Nat} (hD : 0 < D0) (ha : Rp D0 M0 a) (hv : Rp D0 M0 v) : ∀ k : Nat, ∃ D : Int, 0 < D ∧ D ≤ 2048 ^ k * D0 ∧ Rp D (8192 ^ k * M0) (zs c f a k) ∧ Rp D (8192 ^ k * M0) (zs c f v k)
  | 0 => ⟨D0, hD, by rw [Int.pow_zero, Int.one_mul]; exact Int.le_refl _, by rw [Nat.pow_zero, Nat.one_mul]; exact ha, by rw [Nat.pow_zero, Nat.one_mul]; exact hv⟩
  | k + 1 => by
    obtain ⟨D, d1, d2, r1, r2⟩ := rp_zs hc f hD ha hv k
    obtain ⟨w, w1, w2, hw⟩ := rp_refl hc (side f k) d1
    have e : 8192 ^ (k + 1) * M0 = 8192 * (8192 ^ k * M0) := by rw [Nat.pow_succ]; rw [Nat.mul_comm (8192 ^ k), Nat.mul_assoc]
    have e2 : (2048 : Int) ^ (k + 1) * D0 = 2048 * (2048 ^ k * D0) := by rw [Int.pow_succ]; rw [Int.mul_comm (2048 ^ k), Int.mul_assoc]
    refine ⟨w * D, Int.mul_pos w1 d1, ?_, by rw [e]; exact hw _ _ r1, by rw [e]; exact hw _ _ r2⟩
    rw [e2]
    exact Int.mul_le_mul w2 d2 (Int.le_of_lt d1) (by decide)
theorem sz_of_rep {x : Rat} {i Q : Int} {n : Nat} (hQ : Q ≠ 0) (h : x * (Q : Rat) = (i : Rat)) (h1 : i.natAbs < 2 ^ n) (h2 : Q.natAbs < 2 ^ n) (h0 : 0 < n) : Sz n x := by
  rw [rep_div hQ h]; exact sz_divInt h1 h2 h0
theorem rp_nxt {D : Int} {M : Nat} {t : Tr} (s : Bool) (h : Rp D M t) : ∃ i : Int, nxt s t * (D : Rat) = i ∧ i.natAbs ≤ 2 * M := by
  obtain ⟨i, j, k, h1, h2, h3, b1, b2, b3⟩ := h
  cases s
  · refine ⟨k - j, ?_, by omega⟩
    show (t.z - t.y) * _ = _
    rw [Rat.intCast_sub, ← h2, ← h3]; grind
  · refine ⟨j - i, ?_, by omega⟩
    show (t.y - t.x) * _ = _
    rw [Rat.intCast_sub, ← h1, ← h2]; grind
/-- the moment at which the next gap is none -/
theorem sz_meet {s : Bool} {a v : Tr} {D : Int} {M : Nat} (hD : 0 < D) (hD2 : D.natAbs < 2 ^ 900) (hM : M < 2 ^ 960) (ra : Rp D M a) (rv : Rp D M v) (hn : nxt s v ≠ 0) :
    Sz 1000 (nxt s a / (-nxt s v)) ∧ SzTr SB (a.on v (nxt s a / (-nxt s v))) ∧ SzTr SB v ∧ SzTr SB a := by
  obtain ⟨P, hP, bP⟩ := rp_nxt s ra
  obtain ⟨E, hE, bE⟩ := rp_nxt s rv
  have SBe : SB = 2100 := rfl
  have hDq : (D : Rat) ≠ 0 := by
    intro z
    have : D = 0 := by exact_mod_cast z
    omega
  have hE0 : E ≠ 0 := by
    intro z
    rw [z] at hE
    have hE : nxt s v * (D : Rat) = 0 := hE
    rcases Rat.mul_eq_zero.mp hE with q | q
    · exact hn q
    · exact hDq q
  have hEq : (E : Rat) ≠ 0 := by
    intro z
    exact hE0 (by exact_mod_cast z)
  have ht : nxt s a / (-nxt s v) * ((-E : Int) : Rat) = (P : Rat) := by
    rw [Rat.intCast_neg, ← hP, ← hE]; grind
  generalize nxt s a / (-nxt s v) = t at *
  have h960 : 2 * M < 2 ^ 1000 := by
    have : (2 : Nat) * 2 ^ 960 ≤ 2 ^ 1000 := by decide +kernel
    omega
  refine ⟨sz_of_rep (Q := -E) (i := P) (by omega) ht (by omega) (by omega) (by decide), ?_, ?_, ?_⟩
  · obtain ⟨i, j, k, h1, h2, h3, b1, b2, b3⟩ := ra
    obtain ⟨i', j', k', h1', h2', h3', b1', b2', b3'⟩ := rv
    have key : ∀ (x y : Rat) (m n : Int), x * (D : Rat) = m → y * (D : Rat) = n → m.natAbs ≤ M → n.natAbs ≤ M → Sz SB (x + y * t) := by
      intro x y m n hx hy bm bn
      have e : (x + y * t) * ((D * (-E) : Int) : Rat) = ((m * (-E) + n * P : Int) : Rat) := by
        rw [Rat.intCast_mul, Rat.intCast_add, Rat.intCast_mul, Rat.intCast_mul, ← hx, ← hy, ← ht]; grind
      have q1 := mul_bd bm (show (-E).natAbs ≤ 2 * M by omega)
      have q2 := mul_bd bn bP
      have q3 : M * (2 * M) ≤ 2 ^ 960 * (2 * 2 ^ 960) := Nat.mul_le_mul (by omega) (by omega)
      have q4 : (2 : Nat) * (2 ^ 960 * (2 * 2 ^ 960)) < 2 ^ SB := by decide +kernel
      have q5 := mul_bd (show D.natAbs ≤ 2 ^ 900 by omega) (show (-E).natAbs ≤ 2 * 2 ^ 960 by omega)
      have q6 : (2 : Nat) ^ 900 * (2 * 2 ^ 960) < 2 ^ SB := by decide +kernel
      refine sz_of_rep (Q := D * (-E)) ?_ e (by omega) (by omega) (by decide)
      intro z
      rcases Int.mul_eq_zero.mp z with z | z <;> omega
    exact ⟨key _ _ _ _ h1 h1' b1 b1', key _ _ _ _ h2 h2' b2 b2', key _ _ _ _ h3 h3' b3 b3'⟩
  · obtain ⟨i, j, k, h1, h2, h3, b1, b2, b3⟩ := rv
    have q1 : (2 : Nat) ^ 960 < 2 ^ SB := by decide +kernel
    have q2 : (2 : Nat) ^ 900 < 2 ^ SB := by decide +kernel
    exact ⟨sz_of_rep (by omega) h1 (by omega) (by omega) (by decide), sz_of_rep (by omega) h2 (by omega) (by omega) (by decide), sz_of_rep (by omega) h3 (by omega) (by omega) (by decide)⟩
  · obtain ⟨i, j, k, h1, h2, h3, b1, b2, b3⟩ := ra
    have q1 : (2 : Nat) ^ 960 < 2 ^ SB := by decide +kernel
    have q2 : (2 : Nat) ^ 900 < 2 ^ SB := by decide +kernel
    exact ⟨sz_of_rep (by omega) h1 (by omega) (by omega) (by decide), sz_of_rep (by omega) h2 (by omega) (by omega) (by decide), sz_of_rep (by omega) h3 (by omega) (by omega) (by decide)⟩
end DL
namespace DL
set_option exponentiation.threshold 3000
theorem gs_neg (k1 k2 x0 x1 : Rat) (k : Nat) : gs k1 k2 (-x0) (-x1) k = -gs k1 k2 x0 x1 k := by
  refine two_ind (P := fun k => gs k1 k2 (-x0) (-x1) k = -gs k1 k2 x0 x1 k) rfl rfl (fun k h1 h2 => ?_) k
  rw [gs_step, gs_step, h1, h2]; grind
def mo (g h : Rat) : Option Rat := if h < 0 then some (g / (-h)) else none
theorem meeting_mo (p v p' v' : Rat) : meeting p v p' v' = mo (p' - p) (v' - v) := by
  unfold meeting mo
  have e : v - v' = -(v' - v) := by grind
  rw [e]
  by_cases h : v' < v
  · rw [if_pos h, if_pos (by grind)]
  · rw [if_neg h, if_neg (by grind)]
theorem least_mo (p v : Tr) : leastOf [(p.x, v.x), (p.y, v.y), (p.z, v.z)] none = better (better none (mo (nxt true p) (nxt true v))) (mo (nxt false p) (nxt false v)) := by
  show better (better none (meeting p.x v.x p.y v.y)) (meeting p.y v.y p.z v.z) = _
  rw [meeting_mo, meeting_mo]; rfl
theorem least_some {p v : Tr} {s : Bool} (h : nxt s v < 0) (ho : 0 ≤ oth s v ∨ (oth s v < 0 ∧ nxt s p / (-nxt s v) < oth s p / (-oth s v))) : leastOf [(p.x, v.x), (p.y, v.y), (p.z, v.z)] none = some (nxt s p / (-nxt s v)) := by
  rw [least_mo]
  cases s
  · have h : nxt false v < 0 := h
    have e1 : mo (nxt false p) (nxt false v) = some (nxt false p / (-nxt false v)) := if_pos h
    rw [e1]
    rcases ho with ho | ⟨ho, hl⟩
    · have e2 : mo (nxt true p) (nxt true v) = none := if_neg (Rat.not_lt.mpr ho)
      rw [e2]; rfl
    · have e2 : mo (nxt true p) (nxt true v) = some (nxt true p / (-nxt true v)) := if_pos ho
      rw [e2]
      show (if nxt false p / (-nxt false v) < nxt true p / (-nxt true v) then some (nxt false p / (-nxt false v)) else some (nxt true p / (-nxt true v))) = _
      have hl : nxt false p / (-nxt false v) < nxt true p / (-nxt true v) := hl
      rw [if_pos hl]
  · have h : nxt true v < 0 := h
    have e1 : mo (nxt true p) (nxt true v) = some (nxt true p / (-nxt true v)) := if_pos h
    rw [e1]
    rcases ho with ho | ⟨ho, hl⟩
    · have e2 : mo (nxt false p) (nxt false v) = none := if_neg (Rat.not_lt.mpr ho)
      rw [e2]; rfl
    · have e2 : mo (nxt false p) (nxt false v) = some (nxt false p / (-nxt false v)) := if_pos ho
      rw [e2]
      show (if nxt false p / (-nxt false v) < nxt true p / (-nxt true v) then some (nxt false p / (-nxt false v)) else some (nxt true p / (-nxt true v))) = _
      have hl : nxt true p / (-nxt true v) < nxt false p / (-nxt false v) := hl
      rw [if_neg (by grind)]
theorem least_none {p v : Tr} {s : Bool} (h : 0 ≤ nxt s v) (ho : 0 ≤ oth s v) : leastOf [(p.x, v.x), (p.y, v.y), (p.z, v.z)] none = none := by
  rw [least_mo]
  have e : ∀ b : Bool, mo (nxt b p) (nxt b v) = none := fun b => if_neg (Rat.not_lt.mpr (by
    cases s <;> cases b <;> assumption))
  rw [e, e]; rfl
theorem meet_sz3 {p v : Tr} {s : Bool} (h1 : ∀ t, mo (nxt s p) (nxt s v) = some t → Sz SB t) (h2 : ∀ t, mo (oth s p) (oth s v) = some t → Sz SB t) : MeetSz [(p.x, v.x), (p.y, v.y), (p.z, v.z)] := by
  intro a b hab t ht
  rw [meeting_mo] at ht
  simp only [List.tail_cons, List.zip_cons_cons, List.zip_nil_right, List.mem_cons, List.not_mem_nil, or_false, Prod.mk.injEq] at hab
  have k1 : ∀ b : Bool, ∀ t, mo (nxt b p) (nxt b v) = some t → Sz SB t := by
    intro b
    cases s <;> cases b <;> assumption
  rcases hab with ⟨rfl, rfl⟩ | ⟨rfl, rfl⟩
  · exact k1 true t ht
  · exact k1 false t ht
theorem on_zero (a v : Tr) : a.on v 0 = a := by
  show (⟨a.x + v.x * 0, a.y + v.y * 0, a.z + v.z * 0⟩ : Tr) = a
  have e1 : a.x + v.x * 0 = a.x := by grind
  have e2 : a.y + v.y * 0 = a.y := by grind
  have e3 : a.z + v.z * 0 = a.z := by grind
  rw [e1, e2, e3]
structure Bg (V : Var) (m1 m2 m3 : Int) (f : Bool) (a0 v0 : Tr) (e d c : Rat) (N : Nat) : Prop where
  mK : MK (kp1 (vCf V m1 m2 m3) f) (kp2 (vCf V m1 m2 m3) f) c d N
  ok : CfOk (vCf V m1 m2 m3)
  ci : CfI (vCf V m1 m2 m3)
  w : vWOk V m1 m2 m3
  sa : vSt V a0
  sv : vSt V v0
  e0 : 0 < e
  na : nxt f a0 = e
  nv : nxt f v0 = -e
  oa : oth f a0 = d + 2
  ov : oth f v0 = -d
  rep : ∃ (D0 : Int) (M0 : Nat), 0 < D0 ∧ D0 ≤ 2 ^ 513 ∧ M0 ≤ 2 ^ 516 ∧ Rp D0 M0 a0 ∧ Rp D0 M0 v0
section
variable {V : Var} {m1 m2 m3 : Int} {f : Bool} {a0 v0 : Tr} {e d c : Rat} {N : Nat}
/-- rates, places of the next gap -/
def rE (V : Var) (m1 m2 m3 : Int) (f : Bool) (d e : Rat) (k : Nat) : Rat := gs (kp1 (vCf V m1 m2 m3) f) (kp2 (vCf V m1 m2 m3) f) (-d) e k
def rP (V : Var) (m1 m2 m3 : Int) (f : Bool) (d e : Rat) (k : Nat) : Rat := gs (kp1 (vCf V m1 m2 m3) f) (kp2 (vCf V m1 m2 m3) f) (-(d + 2)) e k
def rT (V : Var) (m1 m2 m3 : Int) (f : Bool) (d e : Rat) : Nat → Rat
  | 0 => 0
  | k + 1 => rP V m1 m2 m3 f d e (k + 1) / rE V m1 m2 m3 f d e (k + 1)
def aK (V : Var) (m1 m2 m3 : Int) (f : Bool) (z : Tr) (k : Nat) : Tr := zs (vCf V m1 m2 m3) f z k
def csK (V : Var) (m1 m2 m3 : Int) (f : Bool) (d e : Rat) : Nat → List (Rat × Group)
  | 0 => []
  | k + 1 => csK V m1 m2 m3 f d e k ++ [(rT V m1 m2 m3 f d e (k + 1), vGrp V (side f k))]
def stK (V : Var) (m1 m2 m3 : Int) (f : Bool) (a0 v0 : Tr) (d e : Rat) (k : Nat) : Run :=
  ⟨vRow V m1 m2 m3 ((aK V m1 m2 m3 f a0 k).on (aK V m1 m2 m3 f v0 k) (rT V m1 m2 m3 f d e k)) (aK V m1 m2 m3 f v0 k), vWls V, rT V m1 m2 m3 f d e k, csK V m1 m2 m3 f d e k⟩
theorem csK_len : ∀ k, (csK V m1 m2 m3 f d e k).length = k
  | 0 => rfl
  | k + 1 => by
    show (csK V m1 m2 m3 f d e k ++ [_]).length = k + 1
    rw [List.length_append, csK_len k]; rfl
theorem Bg.v (g : Bg V m1 m2 m3 f a0 v0 e d c N) (k : Nat) : nxt (side f k) (aK V m1 m2 m3 f v0 k) = -rE V m1 m2 m3 f d e (k + 1) ∧ oth (side f k) (aK V m1 m2 m3 f v0 k) = rE V m1 m2 m3 f d e k := by
  obtain ⟨h1, h2⟩ := zs_gs g.ok f v0 k
  rw [g.nv, g.ov, gs_neg] at h1 h2
  exact ⟨h1, by rw [show oth (side f k) (aK V m1 m2 m3 f v0 k) = _ from h2]; unfold rE; grind⟩
theorem Bg.a (g : Bg V m1 m2 m3 f a0 v0 e d c N) (k : Nat) : nxt (side f k) (aK V m1 m2 m3 f a0 k) = rP V m1 m2 m3 f d e (k + 1) ∧ oth (side f k) (aK V m1 m2 m3 f a0 k) = -rP V m1 m2 m3 f d e k := by
  obtain ⟨h1, h2⟩ := zs_gs g.ok f a0 k
  rw [g.na, g.oa] at h1 h2
  exact ⟨h1, h2⟩
theorem Bg.st (g : Bg V m1 m2 m3 f a0 v0 e d c N) {z : Tr} (h : vSt V z) : ∀ k, vSt V (aK V m1 m2 m3 f z k)
  | 0 => h
  | k + 1 => vSt_refl (Bg.st g h k)
theorem wr_EP (k : Nat) : rP V m1 m2 m3 f d e (k + 1) * rE V m1 m2 m3 f d e k - rP V m1 m2 m3 f d e k * rE V m1 m2 m3 f d e (k + 1) = 2 * e := by
  have := gs_wr (kp1 (vCf V m1 m2 m3) f) (kp2 (vCf V m1 m2 m3) f) (-d) e (-(d + 2)) e k
  unfold rP rE
  rw [this]; grind
theorem Bg.szs (g : Bg V m1 m2 m3 f a0 v0 e d c N) {k : Nat} (hk : k ≤ 33) {s : Bool} (hn : nxt s (aK V m1 m2 m3 f v0 k) ≠ 0) :
    Sz 1000 (nxt s (aK V m1 m2 m3 f a0 k) / (-nxt s (aK V m1 m2 m3 f v0 k))) ∧ SzTr SB ((aK V m1 m2 m3 f a0 k).on (aK V m1 m2 m3 f v0 k) (nxt s (aK V m1 m2 m3 f a0 k) / (-nxt s (aK V m1 m2 m3 f v0 k)))) ∧ SzTr SB (aK V m1 m2 m3 f v0 k) ∧ SzTr SB (aK V m1 m2 m3 f a0 k) := by
  obtain ⟨D0, M0, d0, d1, b, ra, rv⟩ := g.rep
  obtain ⟨D, p1, p2, q1, q2⟩ := rp_zs g.ci f d0 ra rv k
  have h1 : (2048 : Int) ^ k * D0 < 2 ^ 900 := by
    have e1 : (2048 : Int) ^ k ≤ 2048 ^ 33 := by
      have := Nat.pow_le_pow_right (n := 2048) (by decide) hk
      exact_mod_cast this
    have e2 := Int.mul_le_mul e1 d1 (Int.le_of_lt d0) (by decide +kernel)
    have e3 : (2048 : Int) ^ 33 * 2 ^ 513 < 2 ^ 900 := by decide +kernel
    omega
  have h2 : 8192 ^ k * M0 < 2 ^ 960 := by
    have e1 := Nat.pow_le_pow_right (n := 8192) (by decide) hk
    have e2 := Nat.mul_le_mul e1 b
    have e3 : (8192 : Nat) ^ 33 * 2 ^ 516 < 2 ^ 960 := by decide +kernel
    omega
  exact sz_meet p1 (by omega) h2 q1 q2 hn
end
end DL
namespace DL
set_option exponentiation.threshold 3000
section
variable {V : Var} {m1 m2 m3 : Int} {f : Bool} {a0 v0 : Tr} {e d c : Rat} {N : Nat}
theorem Bg.dp (g : Bg V m1 m2 m3 f a0 v0 e d c N) : 0 < d := by have := g.mK.dh; have := half_pos; grind
theorem Bg.epos (g : Bg V m1 m2 m3 f a0 v0 e d c N) {k : Nat} (h1 : 1 ≤ k) (h2 : k ≤ cnt (kp1 (vCf V m1 m2 m3) f) (kp2 (vCf V m1 m2 m3) f) d e N) : 0 < rE V m1 m2 m3 f d e k := g.mK.cnt_pos g.e0 k h1 h2
/-- sizes of a moment, of a row at it -/
theorem Bg.szT (g : Bg V m1 m2 m3 f a0 v0 e d c N) : ∀ {k : Nat}, k ≤ 33 → (1 ≤ k → 0 < rE V m1 m2 m3 f d e k) → Sz 1000 (rT V m1 m2 m3 f d e k)
  | 0, _, _ => sz_zero (by decide)
  | k + 1, hk, hp => by
    have hp := hp (by omega)
    have hn : nxt (side f k) (aK V m1 m2 m3 f v0 k) ≠ 0 := by rw [(g.v k).1]; grind
    have := (g.szs (show k ≤ 33 by omega) hn).1
    rw [(g.v k).1, (g.a k).1] at this
    have e1 : - -rE V m1 m2 m3 f d e (k + 1) = rE V m1 m2 m3 f d e (k + 1) := by grind
    rw [e1] at this
    exact this
/-- the row at the next moment -/
def qK (V : Var) (m1 m2 m3 : Int) (f : Bool) (a0 v0 : Tr) (d e : Rat) (k : Nat) : Tr := (aK V m1 m2 m3 f a0 k).on (aK V m1 m2 m3 f v0 k) (rT V m1 m2 m3 f d e (k + 1))
theorem Bg.szQ (g : Bg V m1 m2 m3 f a0 v0 e d c N) {k : Nat} (hk : k ≤ 33) (hp : 0 < rE V m1 m2 m3 f d e (k + 1)) : SzTr SB (qK V m1 m2 m3 f a0 v0 d e k) ∧ SzTr SB (aK V m1 m2 m3 f v0 k) ∧ SzTr SB (aK V m1 m2 m3 f a0 k) := by
  have hn : nxt (side f k) (aK V m1 m2 m3 f v0 k) ≠ 0 := by rw [(g.v k).1]; grind
  have := (g.szs hk hn).2
  rw [(g.v k).1, (g.a k).1] at this
  have e1 : - -rE V m1 m2 m3 f d e (k + 1) = rE V m1 m2 m3 f d e (k + 1) := by grind
  rw [e1] at this
  exact this
theorem Bg.nQ (g : Bg V m1 m2 m3 f a0 v0 e d c N) {k : Nat} (hp : 0 < rE V m1 m2 m3 f d e (k + 1)) : nxt (side f k) (qK V m1 m2 m3 f a0 v0 d e k) = 0 ∧ 0 < oth (side f k) (qK V m1 m2 m3 f a0 v0 d e k) := by
  unfold qK
  rw [nxt_on, oth_on, (g.v k).1, (g.a k).1, (g.v k).2, (g.a k).2]
  have w := wr_EP (V := V) (m1 := m1) (m2 := m2) (m3 := m3) (f := f) (d := d) (e := e) k
  have et : rT V m1 m2 m3 f d e (k + 1) = rP V m1 m2 m3 f d e (k + 1) / rE V m1 m2 m3 f d e (k + 1) := rfl
  rw [et]
  generalize rP V m1 m2 m3 f d e (k + 1) = p1 at *
  generalize rE V m1 m2 m3 f d e (k + 1) = e1 at *
  generalize rP V m1 m2 m3 f d e k = p0 at *
  generalize rE V m1 m2 m3 f d e k = e0 at *
  have ne : e1 ≠ 0 := by grind
  refine ⟨by grind, ?_⟩
  have : -p0 + e0 * (p1 / e1) = 2 * e / e1 := by grind
  rw [this]
  have := g.e0
  exact div_pos (by grind) hp
theorem Bg.step (g : Bg V m1 m2 m3 f a0 v0 e d c N) {k : Nat} (hp : 0 < rE V m1 m2 m3 f d e (k + 1)) : (aK V m1 m2 m3 f a0 (k + 1)).on (aK V m1 m2 m3 f v0 (k + 1)) (rT V m1 m2 m3 f d e (k + 1)) = qK V m1 m2 m3 f a0 v0 d e k := by
  have h1 : aK V m1 m2 m3 f a0 (k + 1) = refl (vCf V m1 m2 m3) (side f k) (aK V m1 m2 m3 f a0 k) := rfl
  have h2 : aK V m1 m2 m3 f v0 (k + 1) = refl (vCf V m1 m2 m3) (side f k) (aK V m1 m2 m3 f v0 k) := rfl
  rw [h1, h2, refl_on]
  exact refl_same (g.nQ hp).1
/-- sizes of the row as it stands -/
theorem Bg.szP (g : Bg V m1 m2 m3 f a0 v0 e d c N) : ∀ {k : Nat}, k ≤ 33 → (1 ≤ k → 0 < rE V m1 m2 m3 f d e k) → SzTr SB ((aK V m1 m2 m3 f a0 k).on (aK V m1 m2 m3 f v0 k) (rT V m1 m2 m3 f d e k))
  | 0, _, _ => by
    have et : rT V m1 m2 m3 f d e 0 = 0 := rfl
    rw [et, on_zero]
    have hn : nxt f (aK V m1 m2 m3 f v0 0) ≠ 0 := by
      have : nxt f (aK V m1 m2 m3 f v0 0) = -e := g.nv
      have := g.e0
      grind
    exact (g.szs (show 0 ≤ 33 by decide) hn).2.2.2
  | k + 1, hk, hp => by
    rw [g.step (hp (by omega))]
    exact (g.szQ (by omega) (hp (by omega))).1
theorem Bg.szV (g : Bg V m1 m2 m3 f a0 v0 e d c N) {k : Nat} (hk : k ≤ 33) (h : (1 ≤ k ∧ 0 < rE V m1 m2 m3 f d e k) ∨ k = 0) : SzTr SB (aK V m1 m2 m3 f v0 k) := by
  have hn : nxt (!side f k) (aK V m1 m2 m3 f v0 k) ≠ 0 := by
    have e1 : nxt (!side f k) (aK V m1 m2 m3 f v0 k) = oth (side f k) (aK V m1 m2 m3 f v0 k) := by cases side f k <;> rfl
    rw [e1, (g.v k).2]
    rcases h with ⟨_, h⟩ | rfl
    · grind
    · have : rE V m1 m2 m3 f d e 0 = -d := rfl
      have := g.dp
      grind
  exact (g.szs hk hn).2.2.1
/-- how far the next coming is -/
theorem Bg.far (g : Bg V m1 m2 m3 f a0 v0 e d c N) {k : Nat} (hk : k ≤ 32) (h0 : 1 ≤ k → 0 < rE V m1 m2 m3 f d e k) (hp : 0 < rE V m1 m2 m3 f d e (k + 1)) :
    least (stK V m1 m2 m3 f a0 v0 d e k).r (stK V m1 m2 m3 f a0 v0 d e k).w = some (rT V m1 m2 m3 f d e (k + 1) - rT V m1 m2 m3 f d e k) ∧ MeetSz (things (stK V m1 m2 m3 f a0 v0 d e k).r (stK V m1 m2 m3 f a0 v0 d e k).w) := by
  have th := things_v (V := V) (m1 := m1) (m2 := m2) (m3 := m3) (vSt_on (t := rT V m1 m2 m3 f d e k) (g.st g.sa k) (g.st g.sv k)) (g.st g.sv k)
  have el : least (stK V m1 m2 m3 f a0 v0 d e k).r (stK V m1 m2 m3 f a0 v0 d e k).w = leastOf (things (vRow V m1 m2 m3 ((aK V m1 m2 m3 f a0 k).on (aK V m1 m2 m3 f v0 k) (rT V m1 m2 m3 f d e k)) (aK V m1 m2 m3 f v0 k)) (vWls V)) none := rfl
  have et : things (stK V m1 m2 m3 f a0 v0 d e k).r (stK V m1 m2 m3 f a0 v0 d e k).w = things (vRow V m1 m2 m3 ((aK V m1 m2 m3 f a0 k).on (aK V m1 m2 m3 f v0 k) (rT V m1 m2 m3 f d e k)) (aK V m1 m2 m3 f v0 k)) (vWls V) := rfl
  rw [el, et, th]
  have hv1 := (g.v k).1
  have hv2 := (g.v k).2
  have ha1 := (g.a k).1
  have ha2 := (g.a k).2
  have eT : rT V m1 m2 m3 f d e (k + 1) = rP V m1 m2 m3 f d e (k + 1) / rE V m1 m2 m3 f d e (k + 1) := rfl
  have hneg : nxt (side f k) (aK V m1 m2 m3 f v0 k) < 0 := by rw [hv1]; grind
  have eN : nxt (side f k) ((aK V m1 m2 m3 f a0 k).on (aK V m1 m2 m3 f v0 k) (rT V m1 m2 m3 f d e k)) / (-nxt (side f k) (aK V m1 m2 m3 f v0 k)) = rT V m1 m2 m3 f d e (k + 1) - rT V m1 m2 m3 f d e k := by
    rw [nxt_on, hv1, ha1, eT]
    have ne : rE V m1 m2 m3 f d e (k + 1) ≠ 0 := by grind
    generalize rE V m1 m2 m3 f d e (k + 1) = e1 at *
    generalize rP V m1 m2 m3 f d e (k + 1) = p1 at *
    grind
  have z1 := g.szT (k := k + 1) (by omega) (fun _ => hp)
  have z0 := g.szT (k := k) (by omega) h0
  have zf : Sz SB (rT V m1 m2 m3 f d e (k + 1) - rT V m1 m2 m3 f d e k) := (Sz.sub z1 z0).mono (by decide)
  -- the other gap
  have other : (0 ≤ oth (side f k) (aK V m1 m2 m3 f v0 k)) ∨ (k = 0) := by
    by_cases q : k = 0
    · exact .inr q
    · have := h0 (by omega)
      exact .inl (by rw [hv2]; exact Rat.le_of_lt this)
  have m1' : ∀ t, mo (nxt (side f k) ((aK V m1 m2 m3 f a0 k).on (aK V m1 m2 m3 f v0 k) (rT V m1 m2 m3 f d e k))) (nxt (side f k) (aK V m1 m2 m3 f v0 k)) = some t → Sz SB t := by
    intro t ht
    unfold mo at ht
    rw [if_pos hneg, eN] at ht
    cases ht; exact zf
  rcases other with ho | rfl
  · refine ⟨by rw [least_some (s := side f k) hneg (.inl ho), eN], meet_sz3 (s := side f k) m1' fun t ht => ?_⟩
    unfold mo at ht
    rw [if_neg (Rat.not_lt.mpr ho)] at ht
    cases ht
  · have hd := g.dp
    have he := g.e0
    have r0 : rT V m1 m2 m3 f d e 0 = 0 := rfl
    have o0 : oth (side f 0) (aK V m1 m2 m3 f v0 0) = -d := g.ov
    have oa : oth (side f 0) (aK V m1 m2 m3 f a0 0) = d + 2 := g.oa
    have na : nxt (side f 0) (aK V m1 m2 m3 f a0 0) = e := g.na
    have nv : nxt (side f 0) (aK V m1 m2 m3 f v0 0) = -e := g.nv
    have p0 : (aK V m1 m2 m3 f a0 0).on (aK V m1 m2 m3 f v0 0) (rT V m1 m2 m3 f d e 0) = aK V m1 m2 m3 f a0 0 := by rw [r0, on_zero]
    have hon : oth (side f 0) (aK V m1 m2 m3 f v0 0) < 0 := by rw [o0]; grind
    have hz : Sz 1000 (oth (side f 0) (aK V m1 m2 m3 f a0 0) / (-oth (side f 0) (aK V m1 m2 m3 f v0 0))) := by
      have hn : nxt (!side f 0) (aK V m1 m2 m3 f v0 0) ≠ 0 := by
        have e1 : nxt (!side f 0) (aK V m1 m2 m3 f v0 0) = oth (side f 0) (aK V m1 m2 m3 f v0 0) := by cases side f 0 <;> rfl
        rw [e1, o0]; grind
      have := (g.szs (show 0 ≤ 33 by decide) hn).1
      have e1 : ∀ t, nxt (!side f 0) t = oth (side f 0) t := by intro t; cases side f 0 <;> rfl
      rw [e1, e1] at this
      exact this
    refine ⟨by
      rw [least_some (s := side f 0) hneg (.inr ⟨hon, ?_⟩), eN]
      rw [p0, na, nv, oa, o0]
      have e1 : e / - -e = 1 := by grind
      have e2 : (d + 2) / - -d = 1 + 2 * (1 / d) := by grind
      rw [e1, e2]
      have := div_pos (show (0 : Rat) < 1 by decide +kernel) hd
      grind, meet_sz3 (s := side f 0) m1' fun t ht => ?_⟩
    unfold mo at ht
    rw [if_pos hon, p0] at ht
    cases ht
    exact hz.mono (by decide)
theorem Bg.end_ (g : Bg V m1 m2 m3 f a0 v0 e d c N) {k : Nat} (h1 : 1 ≤ k) (h0 : 0 < rE V m1 m2 m3 f d e k) (hp : rE V m1 m2 m3 f d e (k + 1) ≤ 0) :
    least (stK V m1 m2 m3 f a0 v0 d e k).r (stK V m1 m2 m3 f a0 v0 d e k).w = none ∧ MeetSz (things (stK V m1 m2 m3 f a0 v0 d e k).r (stK V m1 m2 m3 f a0 v0 d e k).w) := by
  have th := things_v (V := V) (m1 := m1) (m2 := m2) (m3 := m3) (vSt_on (t := rT V m1 m2 m3 f d e k) (g.st g.sa k) (g.st g.sv k)) (g.st g.sv k)
  have el : least (stK V m1 m2 m3 f a0 v0 d e k).r (stK V m1 m2 m3 f a0 v0 d e k).w = leastOf (things (vRow V m1 m2 m3 ((aK V m1 m2 m3 f a0 k).on (aK V m1 m2 m3 f v0 k) (rT V m1 m2 m3 f d e k)) (aK V m1 m2 m3 f v0 k)) (vWls V)) none := rfl
  have et : things (stK V m1 m2 m3 f a0 v0 d e k).r (stK V m1 m2 m3 f a0 v0 d e k).w = things (vRow V m1 m2 m3 ((aK V m1 m2 m3 f a0 k).on (aK V m1 m2 m3 f v0 k) (rT V m1 m2 m3 f d e k)) (aK V m1 m2 m3 f v0 k)) (vWls V) := rfl
  rw [el, et, th]
  have hv1 := (g.v k).1
  have hv2 := (g.v k).2
  have n1 : 0 ≤ nxt (side f k) (aK V m1 m2 m3 f v0 k) := by rw [hv1]; grind
  have n2 : 0 ≤ oth (side f k) (aK V m1 m2 m3 f v0 k) := by rw [hv2]; exact Rat.le_of_lt h0
  refine ⟨least_none (s := side f k) n1 n2, meet_sz3 (s := side f k) (fun t ht => ?_) fun t ht => ?_⟩
  · unfold mo at ht
    rw [if_neg (Rat.not_lt.mpr n1)] at ht; cases ht
  · unfold mo at ht
    rw [if_neg (Rat.not_lt.mpr n2)] at ht; cases ht
theorem Bg.runSz (g : Bg V m1 m2 m3 f a0 v0 e d c N) {k : Nat} (hk : k ≤ 32) (h0 : 1 ≤ k → 0 < rE V m1 m2 m3 f d e k) (hm : MeetSz (things (stK V m1 m2 m3 f a0 v0 d e k).r (stK V m1 m2 m3 f a0 v0 d e k).w)) : RunSz (stK V m1 m2 m3 f a0 v0 d e k) := by
  have zv : SzTr SB (aK V m1 m2 m3 f v0 k) := g.szV (by omega) (by
    by_cases q : k = 0
    · exact .inr q
    · exact .inl ⟨by omega, h0 (by omega)⟩)
  exact ⟨row_sz_v (g.szP (by omega) h0) zv, row_w_v g.w, wls_sz_v V, hm, (g.szT (by omega) h0).mono (by decide)⟩
/-- the whole way -/
theorem Bg.walks (g : Bg V m1 m2 m3 f a0 v0 e d c N) : ∀ j k : Nat, k + j = cnt (kp1 (vCf V m1 m2 m3) f) (kp2 (vCf V m1 m2 m3) f) d e N → Walks none j (stK V m1 m2 m3 f a0 v0 d e k) (stK V m1 m2 m3 f a0 v0 d e (k + j))
  | 0, k, hk => by
    obtain ⟨c1, c2⟩ := g.mK.cnt_le (e := e)
    have h0 : 0 < rE V m1 m2 m3 f d e k := g.epos (by omega) (by omega)
    have hp : rE V m1 m2 m3 f d e (k + 1) ≤ 0 := by
      have := g.mK.cnt_end g.e0
      rw [← hk] at this; exact this
    obtain ⟨l1, l2⟩ := g.end_ (by omega) h0 hp
    refine ⟨g.runSz (by omega) (fun _ => h0) l2, ?_, rfl⟩
    unfold Run.far
    rw [l1]; rfl
  | j + 1, k, hk => by
    obtain ⟨c1, c2⟩ := g.mK.cnt_le (e := e)
    have h0 : 1 ≤ k → 0 < rE V m1 m2 m3 f d e k := fun q => g.epos q (by omega)
    have hp : 0 < rE V m1 m2 m3 f d e (k + 1) := g.epos (by omega) (by omega)
    obtain ⟨l1, l2⟩ := g.far (by omega) h0 hp
    have ih := g.walks j (k + 1) (by omega)
    have ek : k + (j + 1) = k + 1 + j := by omega
    rw [ek]
    refine ⟨g.runSz (by omega) h0 l2, rT V m1 m2 m3 f d e (k + 1) - rT V m1 m2 m3 f d e k, stK V m1 m2 m3 f a0 v0 d e (k + 1), ?_, ?_, ih⟩
    · unfold Run.far
      rw [l1]; rfl
    · have eq : ((aK V m1 m2 m3 f a0 k).on (aK V m1 m2 m3 f v0 k) (rT V m1 m2 m3 f d e k)).on (aK V m1 m2 m3 f v0 k) (rT V m1 m2 m3 f d e (k + 1) - rT V m1 m2 m3 f d e k) = qK V m1 m2 m3 f a0 v0 d e k := by
        rw [on_on]
        have : rT V m1 m2 m3 f d e k + (rT V m1 m2 m3 f d e (k + 1) - rT V m1 m2 m3 f d e k) = rT V m1 m2 m3 f d e (k + 1) := by grind
        rw [this]; rfl
      have et : rT V m1 m2 m3 f d e k + (rT V m1 m2 m3 f d e (k + 1) - rT V m1 m2 m3 f d e k) = rT V m1 m2 m3 f d e (k + 1) := by grind
      obtain ⟨n1, n2⟩ := g.nQ hp
      obtain ⟨z1, z2, z3⟩ := g.szQ (show k ≤ 33 by omega) hp
      have cm := comes_v (V := V) (m1 := m1) (m2 := m2) (m3 := m3) (p := (aK V m1 m2 m3 f a0 k).on (aK V m1 m2 m3 f v0 k) (rT V m1 m2 m3 f d e k)) (v := aK V m1 m2 m3 f v0 k) (s := side f k) (t := rT V m1 m2 m3 f d e k) (f := rT V m1 m2 m3 f d e (k + 1) - rT V m1 m2 m3 f d e k) (cs := csK V m1 m2 m3 f d e k)
        (vSt_on (g.st g.sa k) (g.st g.sv k)) (g.st g.sv k) (by rw [eq]; exact n1) (by rw [eq]; exact n2) (by rw [(g.v k).1]; grind) (by rw [eq]; exact z1) z2 (g.szV (k := k + 1) (by omega) (.inl ⟨by omega, hp⟩)) (by rw [et]; exact (g.szT (by omega) (fun _ => hp)).mono (by decide)) (by rw [csK_len]; omega)
      rw [eq, et] at cm
      unfold stK
      rw [g.step hp]
      exact cm
end
end DL
namespace DL
set_option exponentiation.threshold 3000
theorem most_bg {a c : Option Int} {b : Int} {q : Rat} {N : Nat} {V : Var} {m1 m2 m3 : Int} {f : Bool} (A B : Nat → Tr) (d : Nat → Rat) (g : ∀ j, j ≤ 9 → Bg V m1 m2 m3 f (A j) (B j) (epsOf j) (d j) q N)
    (hs : ∀ j, j ≤ 9 → runOf a b c (epsOf j) = stK V m1 m2 m3 f (A j) (B j) (d j) (epsOf j) 0) : ∃ J, MostRun a b c N J := by
  have h9 : 0 < rE V m1 m2 m3 f (d 9) (epsOf 9) N := by
    have G := g 9 (by decide)
    exact G.mK.e_big G.e0 (by decide +kernel)
  obtain ⟨J, hJ, hJ1, hJ2⟩ := least_ex (P := fun j => 0 < rE V m1 m2 m3 f (d j) (epsOf j) N) h9
  refine ⟨J, hJ, fun j hj => ?_⟩
  have G := g j (by omega)
  have w := G.walks (cnt (kp1 (vCf V m1 m2 m3) f) (kp2 (vCf V m1 m2 m3) f) (d j) (epsOf j) N) 0 (by omega)
  rw [← hs j (by omega)] at w
  refine ⟨_, _, w, ?_⟩
  have el : (stK V m1 m2 m3 f (A j) (B j) (d j) (epsOf j) (0 + cnt (kp1 (vCf V m1 m2 m3) f) (kp2 (vCf V m1 m2 m3) f) (d j) (epsOf j) N)).cs.length = cnt (kp1 (vCf V m1 m2 m3) f) (kp2 (vCf V m1 m2 m3) f) (d j) (epsOf j) N := by
    show (csK V m1 m2 m3 f (d j) (epsOf j) _).length = _
    rw [csK_len]; omega
  rw [el]
  have hN := G.mK.n.1
  unfold cnt
  by_cases e : j = J
  · subst e
    rw [if_pos (show 0 < gs (kp1 (vCf V m1 m2 m3) f) (kp2 (vCf V m1 m2 m3) f) (-d j) (epsOf j) N from hJ1)]; simp
  · have : ¬ 0 < rE V m1 m2 m3 f (d j) (epsOf j) N := hJ2 j (by omega)
    rw [if_neg (show ¬ 0 < gs (kp1 (vCf V m1 m2 m3) f) (kp2 (vCf V m1 m2 m3) f) (-d j) (epsOf j) N from this)]
    exact ⟨fun z => by omega, fun z => absurd z e⟩
theorem eps_mul (j : Nat) : epsOf j * (bott j : Rat) = 1 := by
  have hb := bott_pos j
  have hb' : (bott j : Rat) ≠ 0 := by
    intro z
    have : bott j = 0 := by exact_mod_cast z
    omega
  unfold epsOf
  rw [Rat.divInt_eq_div]
  have : ((1 : Int) : Rat) = 1 := rfl
  rw [this]; grind
theorem bott_two (j : Nat) : 2 ≤ bott j := by
  unfold bott
  have h := Nat.pow_le_pow_right (n := 2) (by decide) (Nat.one_le_two_pow (n := j))
  exact_mod_cast h
theorem bott_le {j : Nat} (h : j ≤ 9) : bott j ≤ 2 ^ 512 := by
  unfold bott
  have h := Nat.pow_le_pow_right (n := 2) (by decide) (Nat.pow_le_pow_right (n := 2) (by decide) h)
  have e : (2 : Nat) ^ 9 = 512 := rfl
  rw [e] at h
  exact_mod_cast h
theorem eps_pos (j : Nat) : 0 < epsOf j := by
  have h := eps_mul j
  have hb : (0 : Rat) < (bott j : Rat) := by exact_mod_cast bott_pos j
  exact pos_of_mul hb (by rw [Rat.mul_comm, h]; decide +kernel)
theorem eps_half (j : Nat) : epsOf j ≤ 1 / 2 := by
  have h := eps_mul j
  have hb : (2 : Rat) ≤ (bott j : Rat) := by exact_mod_cast bott_two j
  have := Rat.mul_le_mul_of_nonneg_left hb (Rat.le_of_lt (eps_pos j))
  grind
/-- the parts of what two weights hand on -/
structure FrOk (m n : Int) (x y : Rat) : Prop where
  x1 : 1 / 1000 ≤ x
  x2 : x ≤ 2
  y1 : 1 / 1000 ≤ y
  y2 : y ≤ 2
  s : x + y = 2
  xw : x * ((m + n : Int) : Rat) = ((2 * m : Int) : Rat)
  yw : y * ((m + n : Int) : Rat) = ((2 * n : Int) : Rat)
theorem fr_low {m n : Int} (hm : wOk m) (hn : wOk n) : (1 : Rat) / 1000 ≤ 2 * (m : Rat) / ((m : Rat) + n) ∧ 2 * (m : Rat) / ((m : Rat) + n) ≤ 2 := by
  obtain ⟨m1, m2⟩ := hm
  obtain ⟨n1, n2⟩ := hn
  have a1 : (1 : Rat) ≤ (m : Rat) := by exact_mod_cast m1
  have a2 : (m : Rat) ≤ 1000 := by exact_mod_cast m2
  have b1 : (1 : Rat) ≤ (n : Rat) := by exact_mod_cast n1
  have b2 : (n : Rat) ≤ 1000 := by exact_mod_cast n2
  have hp : (0 : Rat) < (m : Rat) + n := by grind
  have hne : (m : Rat) + n ≠ 0 := by grind
  refine ⟨?_, div_le_of hp (by grind)⟩
  rcases (Rat.le_total : (1 : Rat) / 1000 ≤ 2 * (m : Rat) / ((m : Rat) + n) ∨ 2 * (m : Rat) / ((m : Rat) + n) ≤ 1 / 1000) with q | q
  · exact q
  · have e : 2 * (m : Rat) / ((m : Rat) + n) * ((m : Rat) + n) = 2 * m := by grind
    have := Rat.mul_le_mul_of_nonneg_left q (Rat.le_of_lt hp)
    grind
theorem fr_ok {m n : Int} (hm : wOk m) (hn : wOk n) : FrOk m n (2 * (m : Rat) / ((m : Rat) + n)) (2 * (n : Rat) / ((m : Rat) + n)) := by
  obtain ⟨l1, l2⟩ := fr_low hm hn
  obtain ⟨l3, l4⟩ := fr_low hn hm
  have ec : (n : Rat) + (m : Rat) = (m : Rat) + n := Rat.add_comm ..
  rw [ec] at l3 l4
  have a1 : (1 : Rat) ≤ (m : Rat) := by exact_mod_cast hm.1
  have b1 : (1 : Rat) ≤ (n : Rat) := by exact_mod_cast hn.1
  have hne : (m : Rat) + n ≠ 0 := by grind
  refine ⟨l1, l2, l3, l4, by grind, ?_, ?_⟩
  · rw [Rat.intCast_add, Rat.intCast_mul]
    have : ((2 : Int) : Rat) = 2 := rfl
    rw [this]; grind
  · rw [Rat.intCast_add, Rat.intCast_mul]
    have : ((2 : Int) : Rat) = 2 := rfl
    rw [this]; grind
theorem four_le {x y : Rat} (h1 : x ≤ 2) (h2 : y ≤ 2) (h0 : 1 / 1000 ≤ x) : x * y ≤ 4 := by
  have p : 0 ≤ x := by have := mil_pos; grind
  have := Rat.mul_le_mul_of_nonneg_left h2 p
  grind
theorem i4 : ((4 : Int) : Rat) = 4 := rfl
theorem two_two : (2 : Rat) ≤ 2 := by decide +kernel
theorem mil_two : (1 : Rat) / 1000 ≤ 2 := by decide +kernel
theorem cfi_fr {m n : Int} (hm : wOk m) (hn : wOk n) {x y : Rat} (h : FrOk m n x y) : ∃ w a a' : Int, 0 < w ∧ w ≤ 2048 ∧ x * (w : Rat) = a ∧ y * (w : Rat) = a' ∧ a.natAbs ≤ 2048 ∧ a'.natAbs ≤ 2048 := by
  obtain ⟨m1, m2⟩ := hm
  obtain ⟨n1, n2⟩ := hn
  exact ⟨m + n, 2 * m, 2 * n, by omega, by omega, h.xw, h.yw, by omega, by omega⟩
theorem cfi_fr' {m n : Int} (hm : wOk m) (hn : wOk n) {x y : Rat} (h : FrOk m n x y) : ∃ w a a' : Int, 0 < w ∧ w ≤ 2048 ∧ y * (w : Rat) = a ∧ x * (w : Rat) = a' ∧ a.natAbs ≤ 2048 ∧ a'.natAbs ≤ 2048 := by
  obtain ⟨m1, m2⟩ := hm
  obtain ⟨n1, n2⟩ := hn
  exact ⟨m + n, 2 * n, 2 * m, by omega, by omega, h.yw, h.xw, by omega, by omega⟩
theorem cfi_wall : ∃ w a a' : Int, 0 < w ∧ w ≤ 2048 ∧ (2 : Rat) * (w : Rat) = a ∧ (0 : Rat) * (w : Rat) = a' ∧ a.natAbs ≤ 2048 ∧ a'.natAbs ≤ 2048 := ⟨1, 2, 0, by decide, by decide, by decide +kernel, by decide +kernel, by decide, by decide⟩
theorem rp_of {j : Nat} {t : Tr} (h : ∃ i1 i2 i3 : Int, t.x * (bott j : Rat) = i1 ∧ t.y * (bott j : Rat) = i2 ∧ t.z * (bott j : Rat) = i3 ∧ i1.natAbs ≤ 3 * (bott j).natAbs ∧ i2.natAbs ≤ 3 * (bott j).natAbs ∧ i3.natAbs ≤ 3 * (bott j).natAbs) : Rp (bott j) (3 * (bott j).natAbs) t := h
theorem most_run {a c : Option Int} {b : Int} {N : Nat} (hw : WtsOk a b c) (hN : NumOk (factor a b c) N) (h32 : N ≤ 32) : ∃ J, MostRun a b c N J := by
  have hz := factor_sz hw
  obtain ⟨hb, ha, hc, hac⟩ := hw
  have b2 : ∀ j, 2 ≤ bott j := bott_two
  have dh : ∀ j, (1 : Rat) / 2 ≤ 1 - epsOf j := fun j => by have := eps_half j; grind
  have rp : ∀ j, j ≤ 9 → ∀ x y : Tr, Rp (bott j) (3 * (bott j).natAbs) x → Rp (bott j) (3 * (bott j).natAbs) y → ∃ (D0 : Int) (M0 : Nat), 0 < D0 ∧ D0 ≤ 2 ^ 513 ∧ M0 ≤ 2 ^ 516 ∧ Rp D0 M0 x ∧ Rp D0 M0 y := by
    intro j hj x y hx hy
    have l := bott_le hj
    have p := bott_pos j
    have q1 : (2 : Int) ^ 512 ≤ 2 ^ 513 := by decide +kernel
    have q2 : 3 * (2 : Nat) ^ 512 ≤ 2 ^ 516 := by decide +kernel
    have q3 : (bott j).natAbs ≤ 2 ^ 512 := by
      have : ((bott j).natAbs : Int) ≤ ((2 ^ 512 : Nat) : Int) := by
        rw [Int.natAbs_of_nonneg (by omega)]; exact l
      exact_mod_cast this
    exact ⟨bott j, _, p, by omega, by omega, hx, hy⟩
  have em := eps_mul
  have c0 : ((0 : Int) : Rat) = 0 := rfl
  have c1 : ((1 : Int) : Rat) = 1 := rfl
  have c3 : ((3 : Int) : Rat) = 3 := rfl
  have cn1 : ((-1 : Int) : Rat) = -1 := rfl
  have cn3 : ((-3 : Int) : Rat) = -3 := rfl
  cases a with
  | none =>
    cases c with
    | none => simp at hac
    | some m3 =>
      have h3 := hc m3 rfl
      have F := fr_ok hb h3
      have ef : factor none b (some m3) = 2 * (2 * (m3 : Rat) / ((b : Rat) + m3)) := by
        show Rat.divInt (4 * m3) (b + m3) = _
        rw [Rat.divInt_eq_div, Rat.intCast_mul, Rat.intCast_add, Rat.div_def, Rat.div_def, i4]; grind
      refine most_bg (V := .vl) (m1 := 0) (m2 := b) (m3 := m3) (f := true) (q := factor none b (some m3)) (fun j => ⟨0, epsOf j, 3⟩) (fun j => ⟨0, 0 - epsOf j, -1⟩) (fun j => 1 - epsOf j) (fun j hj => ?_) (fun j hj => ?_)
      · refine ⟨⟨ef, mil_two, two_two, F.y1, F.y2, by rw [ef]; exact four_le two_two F.y2 mil_two, hz, hN, h32, dh j⟩, ⟨by show (2 : Rat) + 0 = 2; decide +kernel, by rw [← F.s]; exact Rat.add_comm ..⟩, ⟨cfi_wall, cfi_fr' hb h3 F⟩, ⟨hb, h3⟩, rfl, rfl, eps_pos j, ?_, ?_, ?_, ?_, rp j hj _ _ (rp_of ⟨0, 1, 3 * bott j, ?_, ?_, ?_, by omega, by have := b2 j; omega, by omega⟩) (rp_of ⟨0, -1, -1 * bott j, ?_, ?_, ?_, by omega, by have := b2 j; omega, by omega⟩)⟩
        · show epsOf j - 0 = epsOf j; grind
        · show (0 - epsOf j) - 0 = -epsOf j; grind
        · show 3 - epsOf j = 1 - epsOf j + 2; grind
        · show -1 - (0 - epsOf j) = -(1 - epsOf j); grind
        · show (0 : Rat) * _ = _; rw [c0]; grind
        · show epsOf j * _ = _; rw [em, c1]
        · show (3 : Rat) * _ = _; rw [Rat.intCast_mul, c3]
        · show (0 : Rat) * _ = _; rw [c0]; grind
        · show (0 - epsOf j) * _ = _; rw [cn1]; have := em j; grind
        · show (-1 : Rat) * _ = _; rw [Rat.intCast_mul, cn1]
      · show _ = (⟨vRow .vl 0 b m3 ((⟨0, epsOf j, 3⟩ : Tr).on ⟨0, 0 - epsOf j, -1⟩ 0) ⟨0, 0 - epsOf j, -1⟩, vWls .vl, 0, []⟩ : Run)
        rw [on_zero]; rfl
  | some m1 =>
    have h1 := ha m1 rfl
    have F1 := fr_ok h1 hb
    cases c with
    | none =>
      have ef : factor (some m1) b none = 2 * (2 * (m1 : Rat) / ((m1 : Rat) + b)) := by
        show Rat.divInt (4 * m1) (m1 + b) = _
        rw [Rat.divInt_eq_div, Rat.intCast_mul, Rat.intCast_add, Rat.div_def, Rat.div_def, i4]; grind
      refine most_bg (V := .vh) (m1 := m1) (m2 := b) (m3 := 0) (f := false) (q := factor (some m1) b none) (fun j => ⟨-3, 0 - epsOf j, 0⟩) (fun j => ⟨1, epsOf j, 0⟩) (fun j => 1 - epsOf j) (fun j hj => ?_) (fun j hj => ?_)
      · refine ⟨⟨ef, mil_two, two_two, F1.x1, F1.x2, by rw [ef]; exact four_le two_two F1.x2 mil_two, hz, hN, h32, dh j⟩, ⟨F1.s, by show (2 : Rat) + 0 = 2; decide +kernel⟩, ⟨cfi_fr h1 hb F1, cfi_wall⟩, ⟨h1, hb⟩, rfl, rfl, eps_pos j, ?_, ?_, ?_, ?_, rp j hj _ _ (rp_of ⟨-3 * bott j, -1, 0, ?_, ?_, ?_, by omega, by have := b2 j; omega, by omega⟩) (rp_of ⟨1 * bott j, 1, 0, ?_, ?_, ?_, by omega, by have := b2 j; omega, by omega⟩)⟩
        · show 0 - (0 - epsOf j) = epsOf j; grind
        · show 0 - epsOf j = -epsOf j; grind
        · show (0 - epsOf j) - (-3) = 1 - epsOf j + 2; grind
        · show epsOf j - 1 = -(1 - epsOf j); grind
        · show (-3 : Rat) * _ = _; rw [Rat.intCast_mul, cn3]
        · show (0 - epsOf j) * _ = _; rw [cn1]; have := em j; grind
        · show (0 : Rat) * _ = _; rw [c0]; grind
        · show (1 : Rat) * _ = _; rw [Rat.intCast_mul, c1]
        · show epsOf j * _ = _; rw [em, c1]
        · show (0 : Rat) * _ = _; rw [c0]; grind
      · show _ = (⟨vRow .vh m1 b 0 ((⟨-3, 0 - epsOf j, 0⟩ : Tr).on ⟨1, epsOf j, 0⟩ 0) ⟨1, epsOf j, 0⟩, vWls .vh, 0, []⟩ : Run)
        rw [on_zero]; rfl
    | some m3 =>
      have h3 := hc m3 rfl
      have F3 := fr_ok hb h3
      have ef : factor (some m1) b (some m3) = (2 * (m1 : Rat) / ((m1 : Rat) + b)) * (2 * (m3 : Rat) / ((b : Rat) + m3)) := by
        show Rat.divInt (4 * m1 * m3) ((m1 + b) * (b + m3)) = _
        have p1 : (0 : Rat) < (m1 : Rat) + b := by
          have q1 : (1 : Rat) ≤ (m1 : Rat) := by exact_mod_cast h1.1
          have q2 : (1 : Rat) ≤ (b : Rat) := by exact_mod_cast hb.1
          grind
        have p2 : (0 : Rat) < (b : Rat) + m3 := by
          have q1 : (1 : Rat) ≤ (m3 : Rat) := by exact_mod_cast h3.1
          have q2 : (1 : Rat) ≤ (b : Rat) := by exact_mod_cast hb.1
          grind
        have n1 : (m1 : Rat) + b ≠ 0 := by grind
        have n2 : (b : Rat) + m3 ≠ 0 := by grind
        rw [Rat.divInt_eq_div, Rat.intCast_mul, Rat.intCast_mul, Rat.intCast_mul, Rat.intCast_add, Rat.intCast_add, i4]; grind
      refine most_bg (V := .vn) (m1 := m1) (m2 := b) (m3 := m3) (f := true) (q := factor (some m1) b (some m3)) (fun j => ⟨0 - epsOf j, 0, 3⟩) (fun j => ⟨epsOf j, 0, -1⟩) (fun _ => 1) (fun j hj => ?_) (fun j hj => ?_)
      · refine ⟨⟨ef, F1.x1, F1.x2, F3.y1, F3.y2, by rw [ef]; exact four_le F1.x2 F3.y2 F1.x1, hz, hN, h32, by decide +kernel⟩, ⟨F1.s, by rw [← F3.s]; exact Rat.add_comm ..⟩, ⟨cfi_fr h1 hb F1, cfi_fr' hb h3 F3⟩, ⟨h1, hb, h3⟩, trivial, trivial, eps_pos j, ?_, ?_, ?_, ?_, rp j hj _ _ (rp_of ⟨-1, 0, 3 * bott j, ?_, ?_, ?_, by have := b2 j; omega, by omega, by omega⟩) (rp_of ⟨1, 0, -1 * bott j, ?_, ?_, ?_, by have := b2 j; omega, by omega, by omega⟩)⟩
        · show 0 - (0 - epsOf j) = epsOf j; grind
        · show 0 - epsOf j = -epsOf j; grind
        · show (3 : Rat) - 0 = 1 + 2; grind
        · show (-1 : Rat) - 0 = -1; grind
        · show (0 - epsOf j) * _ = _; rw [cn1]; have := em j; grind
        · show (0 : Rat) * _ = _; rw [c0]; grind
        · show (3 : Rat) * _ = _; rw [Rat.intCast_mul, c3]
        · show epsOf j * _ = _; rw [em, c1]
        · show (0 : Rat) * _ = _; rw [c0]; grind
        · show (-1 : Rat) * _ = _; rw [Rat.intCast_mul, cn1]
      · show _ = (⟨vRow .vn m1 b m3 ((⟨0 - epsOf j, 0, 3⟩ : Tr).on ⟨epsOf j, 0, -1⟩ 0) ⟨epsOf j, 0, -1⟩, vWls .vn, 0, []⟩ : Run)
        rw [on_zero]; rfl
theorem most_ok : ∀ a b c, LawW a b c → ∃ N J, NumOk (factor a b c) N ∧ MostRun a b c N J := fun a b c h => by
  obtain ⟨N, hN, h32⟩ := numOk_of (factor_sz h.1) (lawW_le h)
  obtain ⟨J, hJ⟩ := most_run h.1 hN h32
  exact ⟨N, J, hN, hJ⟩
theorem known_runs : ∀ p ∈ known, NumOk (factor p.1.1 p.1.2.1 p.1.2.2) p.2 ∧ ∃ J, MostRun p.1.1 p.1.2.1 p.1.2.2 p.2 J := fun p hp => by
  obtain ⟨hN, h32⟩ := known_numOk p hp
  exact ⟨hN, most_run (known_ok p hp) hN h32⟩
end DL
namespace PG
open PySem L2 RZ DL
theorem rel_int (i : Int) (t : Tok) : RelV (.int i) (.int i t) := ⟨t, rfl⟩
section
open PySem.Spec PyProof.Rows
theorem all_mk {P : Program} {w : World} {K : PySem.W.Frag} {h : Heap} {mg : Str → Option Value} {fa : Addr} (X : K.In h) (G : h.Ns mainGlobals mg) (hfa : mg "law" = some (.ref fa))
    {C_Way : Addr} {f_is_whole : Addr} {oc_is_whole kV_is_whole dc_is_whole pm_is_whole cd_is_whole ct_is_whole : Value} {od_is_whole an_is_whole : Option Addr} {sl_is_whole : Array (Option Value)} {f_divisor_of : Addr} {oc_divisor_of kV_divisor_of dc_divisor_of pm_divisor_of cd_divisor_of ct_divisor_of : Value} {od_divisor_of an_divisor_of : Option Addr} {sl_divisor_of : Array (Option Value)} {f_less : Addr} {oc_less kV_less dc_less pm_less cd_less ct_less : Value} {od_less an_less : Option Addr} {sl_less : Array (Option Value)}
    {f_wall_named : Addr} {oc_wall_named kV_wall_named dc_wall_named pm_wall_named cd_wall_named ct_wall_named : Value} {od_wall_named an_wall_named : Option Addr} {sl_wall_named : Array (Option Value)} {f_wall_there : Addr} {oc_wall_there kV_wall_there dc_wall_there pm_wall_there cd_wall_there ct_wall_there : Value} {od_wall_there an_wall_there : Option Addr} {sl_wall_there : Array (Option Value)} {f_Way___init__ : Addr} {oc_Way___init__ kV_Way___init__ dc_Way___init__ pm_Way___init__ cd_Way___init__ ct_Way___init__ : Value} {od_Way___init__ an_Way___init__ : Option Addr} {sl_Way___init__ : Array (Option Value)} {f__law_cell : Addr} {oc__law_cell kV__law_cell dc__law_cell pm__law_cell cd__law_cell ct__law_cell : Value} {od__law_cell an__law_cell : Option Addr} {sl__law_cell : Array (Option Value)}
    {f__law_pool : Addr} {oc__law_pool kV__law_pool dc__law_pool pm__law_pool cd__law_pool ct__law_pool : Value} {od__law_pool an__law_pool : Option Addr} {sl__law_pool : Array (Option Value)} {f__law_next : Addr} {oc__law_next kV__law_next dc__law_next pm__law_next cd__law_next ct__law_next : Value} {od__law_next an__law_next : Option Addr} {sl__law_next : Array (Option Value)} {f__law_common : Addr} {oc__law_common kV__law_common dc__law_common pm__law_common cd__law_common ct__law_common : Value} {od__law_common an__law_common : Option Addr} {sl__law_common : Array (Option Value)} {f__law_known : Addr} {oc__law_known kV__law_known dc__law_known pm__law_known cd__law_known ct__law_known : Value} {od__law_known an__law_known : Option Addr} {sl__law_known : Array (Option Value)}
    {f_ratio : Addr} {oc_ratio kV_ratio dc_ratio pm_ratio cd_ratio ct_ratio : Value} {od_ratio an_ratio : Option Addr} {sl_ratio : Array (Option Value)} {T_ratio : Addr} {oT_ratio : Value} {odT_ratio : Option Addr} {slT_ratio : Array (Option Value)} {nT_ratio : Nat} {t0_ratio : Tok} {f_comes_to : Addr} {oc_comes_to kV_comes_to dc_comes_to pm_comes_to cd_comes_to ct_comes_to : Value} {od_comes_to an_comes_to : Option Addr} {sl_comes_to : Array (Option Value)} {f_rising : Addr} {oc_rising kV_rising dc_rising pm_rising cd_rising ct_rising : Value} {od_rising an_rising : Option Addr} {sl_rising : Array (Option Value)}
    {f_is_weight : Addr} {oc_is_weight kV_is_weight dc_is_weight pm_is_weight cd_is_weight ct_is_weight : Value} {od_is_weight an_is_weight : Option Addr} {sl_is_weight : Array (Option Value)} {f__law_low : Addr} {oc__law_low kV__law_low dc__law_low pm__law_low cd__law_low ct__law_low : Value} {od__law_low an__law_low : Option Addr} {sl__law_low : Array (Option Value)} {f__law_three : Addr} {oc__law_three kV__law_three dc__law_three pm__law_three cd__law_three ct__law_three : Value} {od__law_three an__law_three : Option Addr} {sl__law_three : Array (Option Value)} {f_plus : Addr} {oc_plus kV_plus dc_plus pm_plus cd_plus ct_plus : Value} {od_plus an_plus : Option Addr} {sl_plus : Array (Option Value)}
    {f_minus : Addr} {oc_minus kV_minus dc_minus pm_minus cd_minus ct_minus : Value} {od_minus an_minus : Option Addr} {sl_minus : Array (Option Value)} {f_times : Addr} {oc_times kV_times dc_times pm_times cd_times ct_times : Value} {od_times an_times : Option Addr} {sl_times : Array (Option Value)} {f_over : Addr} {oc_over kV_over dc_over pm_over cd_over ct_over : Value} {od_over an_over : Option Addr} {sl_over : Array (Option Value)} {f_groups_at : Addr} {oc_groups_at kV_groups_at dc_groups_at pm_groups_at cd_groups_at ct_groups_at : Value} {od_groups_at an_groups_at : Option Addr} {sl_groups_at : Array (Option Value)}
    {f_look_at_weights : Addr} {oc_look_at_weights kV_look_at_weights dc_look_at_weights pm_look_at_weights cd_look_at_weights ct_look_at_weights : Value} {od_look_at_weights an_look_at_weights : Option Addr} {sl_look_at_weights : Array (Option Value)} {f_factor_of : Addr} {oc_factor_of kV_factor_of dc_factor_of pm_factor_of cd_factor_of ct_factor_of : Value} {od_factor_of an_factor_of : Option Addr} {sl_factor_of : Array (Option Value)} {f__law_gap : Addr} {oc__law_gap kV__law_gap dc__law_gap pm__law_gap cd__law_gap ct__law_gap : Value} {od__law_gap an__law_gap : Option Addr} {sl__law_gap : Array (Option Value)} {f__law_by : Addr} {oc__law_by kV__law_by dc__law_by pm__law_by cd__law_by ct__law_by : Value} {od__law_by an__law_by : Option Addr} {sl__law_by : Array (Option Value)}
    {f_place_at : Addr} {oc_place_at kV_place_at dc_place_at pm_place_at cd_place_at ct_place_at : Value} {od_place_at an_place_at : Option Addr} {sl_place_at : Array (Option Value)} {f_meeting_moment : Addr} {oc_meeting_moment kV_meeting_moment dc_meeting_moment pm_meeting_moment cd_meeting_moment ct_meeting_moment : Value} {od_meeting_moment an_meeting_moment : Option Addr} {sl_meeting_moment : Array (Option Value)} {f_two_speeds : Addr} {oc_two_speeds kV_two_speeds dc_two_speeds pm_two_speeds cd_two_speeds ct_two_speeds : Value} {od_two_speeds an_two_speeds : Option Addr} {sl_two_speeds : Array (Option Value)} {f_numbers_of : Addr} {oc_numbers_of kV_numbers_of dc_numbers_of pm_numbers_of cd_numbers_of ct_numbers_of : Value} {od_numbers_of an_numbers_of : Option Addr} {sl_numbers_of : Array (Option Value)}
    {f_beginning : Addr} {oc_beginning kV_beginning dc_beginning pm_beginning cd_beginning ct_beginning : Value} {od_beginning an_beginning : Option Addr} {sl_beginning : Array (Option Value)} {f__law_numbers : Addr} {oc__law_numbers kV__law_numbers dc__law_numbers pm__law_numbers cd__law_numbers ct__law_numbers : Value} {od__law_numbers an__law_numbers : Option Addr} {sl__law_numbers : Array (Option Value)} {f_gone_on : Addr} {oc_gone_on kV_gone_on dc_gone_on pm_gone_on cd_gone_on ct_gone_on : Value} {od_gone_on an_gone_on : Option Addr} {sl_gone_on : Array (Option Value)} {f_least_moment : Addr} {oc_least_moment kV_least_moment dc_least_moment pm_least_moment cd_least_moment ct_least_moment : Value} {od_least_moment an_least_moment : Option Addr} {sl_least_moment : Array (Option Value)}
    {f_together_speeds : Addr} {oc_together_speeds kV_together_speeds dc_together_speeds pm_together_speeds cd_together_speeds ct_together_speeds : Value} {od_together_speeds an_together_speeds : Option Addr} {sl_together_speeds : Array (Option Value)} {f_walls_at : Addr} {oc_walls_at kV_walls_at dc_walls_at pm_walls_at cd_walls_at ct_walls_at : Value} {od_walls_at an_walls_at : Option Addr} {sl_walls_at : Array (Option Value)} {f_row_at : Addr} {oc_row_at kV_row_at dc_row_at pm_row_at cd_row_at ct_row_at : Value} {od_row_at an_row_at : Option Addr} {sl_row_at : Array (Option Value)} {f_rebounded : Addr} {oc_rebounded kV_rebounded dc_rebounded pm_rebounded cd_rebounded ct_rebounded : Value} {od_rebounded an_rebounded : Option Addr} {sl_rebounded : Array (Option Value)}
    {f_Way_coming_by : Addr} {oc_Way_coming_by kV_Way_coming_by dc_Way_coming_by pm_Way_coming_by cd_Way_coming_by ct_Way_coming_by : Value} {od_Way_coming_by an_Way_coming_by : Option Addr} {sl_Way_coming_by : Array (Option Value)} {f_Way_go_on : Addr} {oc_Way_go_on kV_Way_go_on dc_Way_go_on pm_Way_go_on cd_Way_go_on ct_Way_go_on : Value} {od_Way_go_on an_Way_go_on : Option Addr} {sl_Way_go_on : Array (Option Value)} {f_Way_come : Addr} {oc_Way_come kV_Way_come dc_Way_come pm_Way_come cd_Way_come ct_Way_come : Value} {od_Way_come an_Way_come : Option Addr} {sl_Way_come : Array (Option Value)} {f_Way_walk : Addr} {oc_Way_walk kV_Way_walk dc_Way_walk pm_Way_walk cd_Way_walk ct_Way_walk : Value} {od_Way_walk an_Way_walk : Option Addr} {sl_Way_walk : Array (Option Value)}
    {f_ended : Addr} {oc_ended kV_ended dc_ended pm_ended cd_ended ct_ended : Value} {od_ended an_ended : Option Addr} {sl_ended : Array (Option Value)} {f_groups_from : Addr} {oc_groups_from kV_groups_from dc_groups_from pm_groups_from cd_groups_from ct_groups_from : Value} {od_groups_from an_groups_from : Option Addr} {sl_groups_from : Array (Option Value)} {f_most_of : Addr} {oc_most_of kV_most_of dc_most_of pm_most_of cd_most_of ct_most_of : Value} {od_most_of an_most_of : Option Addr} {sl_most_of : Array (Option Value)} {f_law : Addr} {oc_law kV_law dc_law pm_law cd_law ct_law : Value} {od_law an_law : Option Addr} {sl_law : Array (Option Value)}
    {tk_GREATEST : Tok} {tk_HIGH : Tok} {tk_LOW : Tok} {tk_MOST_GROUPS : Tok}
    {ga_NOUGHT : Addr} {god_NOUGHT : Option Addr} {gn_NOUGHT : Nat} {gsl_NOUGHT : Array (Option Value)} {gt0_NOUGHT : Tok} {gt1_NOUGHT : Tok} {ga_ONE : Addr} {god_ONE : Option Addr} {gn_ONE : Nat} {gsl_ONE : Array (Option Value)} {gt0_ONE : Tok} {gt1_ONE : Tok} {tk_PLACE : Tok} {tk_SPEED : Tok}
    {tk_WEIGHT : Tok}
    (aC_Way : PySem.W.nsIn K mainGlobals "Way" = some (some (.ref C_Way)))
    (pg_Way : PySem.W.plainGet K C_Way Str.empty = true)
    (hd_Way : PySem.W.hasDictIn K C_Way = true)
    (po_Way : PySem.W.plainOver K C_Way = true)
    (sa_Way : PySem.W.findIn K (.ref C_Way) "__setattr__" = some (some (.builtin "object.__setattr__")))
    (mk_Way : PySem.W.makesIn K C_Way = true)
    (kc_Way : PySem.W.keepIn K (.ref C_Way) = true)
    (no_Way_row : PySem.W.findIn K (.ref C_Way) "row" = some none)
    (no_Way_walls : PySem.W.findIn K (.ref C_Way) "walls" = some none)
    (no_Way_moment : PySem.W.findIn K (.ref C_Way) "moment" = some none)
    (no_Way_comings : PySem.W.findIn K (.ref C_Way) "comings" = some none)
    (a_is_whole : PySem.W.nsIn K mainGlobals "is_whole" = some (some (.ref f_is_whole)))
    (l_is_whole : K.lookup f_is_whole = some ⟨oc_is_whole, od_is_whole, .func (PySem.W.fnOf "is_whole" "is_whole" (defArgs s_is_whole) (defBody s_is_whole) (defScope s_is_whole) .none kV_is_whole dc_is_whole pm_is_whole an_is_whole cd_is_whole ct_is_whole), sl_is_whole⟩)
    (c_is_whole : PySem.W.codeIn K cd_is_whole "is_whole" = true)
    (k_is_whole : PySem.W.keepIn K (.ref f_is_whole) = true)
    (a_divisor_of : PySem.W.nsIn K mainGlobals "divisor_of" = some (some (.ref f_divisor_of)))
    (l_divisor_of : K.lookup f_divisor_of = some ⟨oc_divisor_of, od_divisor_of, .func (PySem.W.fnOf "divisor_of" "divisor_of" (defArgs s_divisor_of) (defBody s_divisor_of) (defScope s_divisor_of) .none kV_divisor_of dc_divisor_of pm_divisor_of an_divisor_of cd_divisor_of ct_divisor_of), sl_divisor_of⟩)
    (c_divisor_of : PySem.W.codeIn K cd_divisor_of "divisor_of" = true)
    (k_divisor_of : PySem.W.keepIn K (.ref f_divisor_of) = true)
    (a_less : PySem.W.nsIn K mainGlobals "less" = some (some (.ref f_less)))
    (l_less : K.lookup f_less = some ⟨oc_less, od_less, .func (PySem.W.fnOf "less" "less" (defArgs s_less) (defBody s_less) (defScope s_less) .none kV_less dc_less pm_less an_less cd_less ct_less), sl_less⟩)
    (c_less : PySem.W.codeIn K cd_less "less" = true)
    (k_less : PySem.W.keepIn K (.ref f_less) = true)
    (a_wall_named : PySem.W.nsIn K mainGlobals "wall_named" = some (some (.ref f_wall_named)))
    (l_wall_named : K.lookup f_wall_named = some ⟨oc_wall_named, od_wall_named, .func (PySem.W.fnOf "wall_named" "wall_named" (defArgs s_wall_named) (defBody s_wall_named) (defScope s_wall_named) .none kV_wall_named dc_wall_named pm_wall_named an_wall_named cd_wall_named ct_wall_named), sl_wall_named⟩)
    (c_wall_named : PySem.W.codeIn K cd_wall_named "wall_named" = true)
    (k_wall_named : PySem.W.keepIn K (.ref f_wall_named) = true)
    (a_wall_there : PySem.W.nsIn K mainGlobals "wall_there" = some (some (.ref f_wall_there)))
    (l_wall_there : K.lookup f_wall_there = some ⟨oc_wall_there, od_wall_there, .func (PySem.W.fnOf "wall_there" "wall_there" (defArgs s_wall_there) (defBody s_wall_there) (defScope s_wall_there) .none kV_wall_there dc_wall_there pm_wall_there an_wall_there cd_wall_there ct_wall_there), sl_wall_there⟩)
    (c_wall_there : PySem.W.codeIn K cd_wall_there "wall_there" = true)
    (k_wall_there : PySem.W.keepIn K (.ref f_wall_there) = true)
    (a_Way___init__ : PySem.W.findIn K (.ref C_Way) "__init__" = some (some (.ref f_Way___init__)))
    (i_Way___init__ : PySem.W.isFn K (.ref f_Way___init__) = true)
    (l_Way___init__ : K.lookup f_Way___init__ = some ⟨oc_Way___init__, od_Way___init__, .func (PySem.W.fnOf "__init__" "Way.__init__" (defArgs s_Way___init__) (defBody s_Way___init__) (defScope s_Way___init__) .none kV_Way___init__ dc_Way___init__ pm_Way___init__ an_Way___init__ cd_Way___init__ ct_Way___init__), sl_Way___init__⟩)
    (c_Way___init__ : PySem.W.codeIn K cd_Way___init__ "Way.__init__" = true)
    (k_Way___init__ : PySem.W.keepIn K (.ref f_Way___init__) = true)
    (a__law_cell : PySem.W.nsIn K mainGlobals "_law_cell" = some (some (.ref f__law_cell)))
    (l__law_cell : K.lookup f__law_cell = some ⟨oc__law_cell, od__law_cell, .func (PySem.W.fnOf "_law_cell" "_law_cell" (defArgs s__law_cell) (defBody s__law_cell) (defScope s__law_cell) .none kV__law_cell dc__law_cell pm__law_cell an__law_cell cd__law_cell ct__law_cell), sl__law_cell⟩)
    (c__law_cell : PySem.W.codeIn K cd__law_cell "_law_cell" = true)
    (k__law_cell : PySem.W.keepIn K (.ref f__law_cell) = true)
    (a__law_pool : PySem.W.nsIn K mainGlobals "_law_pool" = some (some (.ref f__law_pool)))
    (l__law_pool : K.lookup f__law_pool = some ⟨oc__law_pool, od__law_pool, .func (PySem.W.fnOf "_law_pool" "_law_pool" (defArgs s__law_pool) (defBody s__law_pool) (defScope s__law_pool) .none kV__law_pool dc__law_pool pm__law_pool an__law_pool cd__law_pool ct__law_pool), sl__law_pool⟩)
    (c__law_pool : PySem.W.codeIn K cd__law_pool "_law_pool" = true)
    (k__law_pool : PySem.W.keepIn K (.ref f__law_pool) = true)
    (a__law_next : PySem.W.nsIn K mainGlobals "_law_next" = some (some (.ref f__law_next)))
    (l__law_next : K.lookup f__law_next = some ⟨oc__law_next, od__law_next, .func (PySem.W.fnOf "_law_next" "_law_next" (defArgs s__law_next) (defBody s__law_next) (defScope s__law_next) .none kV__law_next dc__law_next pm__law_next an__law_next cd__law_next ct__law_next), sl__law_next⟩)
    (c__law_next : PySem.W.codeIn K cd__law_next "_law_next" = true)
    (k__law_next : PySem.W.keepIn K (.ref f__law_next) = true)
    (a__law_common : PySem.W.nsIn K mainGlobals "_law_common" = some (some (.ref f__law_common)))
    (l__law_common : K.lookup f__law_common = some ⟨oc__law_common, od__law_common, .func (PySem.W.fnOf "_law_common" "_law_common" (defArgs s__law_common) (defBody s__law_common) (defScope s__law_common) .none kV__law_common dc__law_common pm__law_common an__law_common cd__law_common ct__law_common), sl__law_common⟩)
    (c__law_common : PySem.W.codeIn K cd__law_common "_law_common" = true)
    (k__law_common : PySem.W.keepIn K (.ref f__law_common) = true)
    (a__law_known : PySem.W.nsIn K mainGlobals "_law_known" = some (some (.ref f__law_known)))
    (l__law_known : K.lookup f__law_known = some ⟨oc__law_known, od__law_known, .func (PySem.W.fnOf "_law_known" "_law_known" (defArgs s__law_known) (defBody s__law_known) (defScope s__law_known) .none kV__law_known dc__law_known pm__law_known an__law_known cd__law_known ct__law_known), sl__law_known⟩)
    (c__law_known : PySem.W.codeIn K cd__law_known "_law_known" = true)
    (k__law_known : PySem.W.keepIn K (.ref f__law_known) = true)
    (a_ratio : PySem.W.nsIn K mainGlobals "ratio" = some (some (.ref f_ratio)))
    (l_ratio : K.lookup f_ratio = some ⟨oc_ratio, od_ratio, .func (PySem.W.fnOf "ratio" "ratio" (C8.fnArgs s_ratio) (C8.fnBody s_ratio) (C8.fnScope s_ratio) (.ref T_ratio) kV_ratio dc_ratio pm_ratio an_ratio cd_ratio ct_ratio), sl_ratio⟩)
    (lT_ratio : K.lookup T_ratio = some ⟨oT_ratio, odT_ratio, .seq #[.int 1 t0_ratio] nT_ratio, slT_ratio⟩)
    (c_ratio : PySem.W.codeIn K cd_ratio "ratio" = true)
    (k_ratio : PySem.W.keepIn K (.ref f_ratio) = true)
    (a_comes_to : PySem.W.nsIn K mainGlobals "comes_to" = some (some (.ref f_comes_to)))
    (l_comes_to : K.lookup f_comes_to = some ⟨oc_comes_to, od_comes_to, .func (PySem.W.fnOf "comes_to" "comes_to" (defArgs s_comes_to) (defBody s_comes_to) (defScope s_comes_to) .none kV_comes_to dc_comes_to pm_comes_to an_comes_to cd_comes_to ct_comes_to), sl_comes_to⟩)
    (c_comes_to : PySem.W.codeIn K cd_comes_to "comes_to" = true)
    (k_comes_to : PySem.W.keepIn K (.ref f_comes_to) = true)
    (a_rising : PySem.W.nsIn K mainGlobals "rising" = some (some (.ref f_rising)))
    (l_rising : K.lookup f_rising = some ⟨oc_rising, od_rising, .func (PySem.W.fnOf "rising" "rising" (defArgs s_rising) (defBody s_rising) (defScope s_rising) .none kV_rising dc_rising pm_rising an_rising cd_rising ct_rising), sl_rising⟩)
    (c_rising : PySem.W.codeIn K cd_rising "rising" = true)
    (k_rising : PySem.W.keepIn K (.ref f_rising) = true)
    (a_is_weight : PySem.W.nsIn K mainGlobals "is_weight" = some (some (.ref f_is_weight)))
    (l_is_weight : K.lookup f_is_weight = some ⟨oc_is_weight, od_is_weight, .func (PySem.W.fnOf "is_weight" "is_weight" (defArgs s_is_weight) (defBody s_is_weight) (defScope s_is_weight) .none kV_is_weight dc_is_weight pm_is_weight an_is_weight cd_is_weight ct_is_weight), sl_is_weight⟩)
    (c_is_weight : PySem.W.codeIn K cd_is_weight "is_weight" = true)
    (k_is_weight : PySem.W.keepIn K (.ref f_is_weight) = true)
    (a__law_low : PySem.W.nsIn K mainGlobals "_law_low" = some (some (.ref f__law_low)))
    (l__law_low : K.lookup f__law_low = some ⟨oc__law_low, od__law_low, .func (PySem.W.fnOf "_law_low" "_law_low" (defArgs s__law_low) (defBody s__law_low) (defScope s__law_low) .none kV__law_low dc__law_low pm__law_low an__law_low cd__law_low ct__law_low), sl__law_low⟩)
    (c__law_low : PySem.W.codeIn K cd__law_low "_law_low" = true)
    (k__law_low : PySem.W.keepIn K (.ref f__law_low) = true)
    (a__law_three : PySem.W.nsIn K mainGlobals "_law_three" = some (some (.ref f__law_three)))
    (l__law_three : K.lookup f__law_three = some ⟨oc__law_three, od__law_three, .func (PySem.W.fnOf "_law_three" "_law_three" (defArgs s__law_three) (defBody s__law_three) (defScope s__law_three) .none kV__law_three dc__law_three pm__law_three an__law_three cd__law_three ct__law_three), sl__law_three⟩)
    (c__law_three : PySem.W.codeIn K cd__law_three "_law_three" = true)
    (k__law_three : PySem.W.keepIn K (.ref f__law_three) = true)
    (a_plus : PySem.W.nsIn K mainGlobals "plus" = some (some (.ref f_plus)))
    (l_plus : K.lookup f_plus = some ⟨oc_plus, od_plus, .func (PySem.W.fnOf "plus" "plus" (defArgs s_plus) (defBody s_plus) (defScope s_plus) .none kV_plus dc_plus pm_plus an_plus cd_plus ct_plus), sl_plus⟩)
    (c_plus : PySem.W.codeIn K cd_plus "plus" = true)
    (k_plus : PySem.W.keepIn K (.ref f_plus) = true)
    (a_minus : PySem.W.nsIn K mainGlobals "minus" = some (some (.ref f_minus)))
    (l_minus : K.lookup f_minus = some ⟨oc_minus, od_minus, .func (PySem.W.fnOf "minus" "minus" (defArgs s_minus) (defBody s_minus) (defScope s_minus) .none kV_minus dc_minus pm_minus an_minus cd_minus ct_minus), sl_minus⟩)
    (c_minus : PySem.W.codeIn K cd_minus "minus" = true)
    (k_minus : PySem.W.keepIn K (.ref f_minus) = true)
    (a_times : PySem.W.nsIn K mainGlobals "times" = some (some (.ref f_times)))
    (l_times : K.lookup f_times = some ⟨oc_times, od_times, .func (PySem.W.fnOf "times" "times" (defArgs s_times) (defBody s_times) (defScope s_times) .none kV_times dc_times pm_times an_times cd_times ct_times), sl_times⟩)
    (c_times : PySem.W.codeIn K cd_times "times" = true)
    (k_times : PySem.W.keepIn K (.ref f_times) = true)
    (a_over : PySem.W.nsIn K mainGlobals "over" = some (some (.ref f_over)))
    (l_over : K.lookup f_over = some ⟨oc_over, od_over, .func (PySem.W.fnOf "over" "over" (defArgs s_over) (defBody s_over) (defScope s_over) .none kV_over dc_over pm_over an_over cd_over ct_over), sl_over⟩)
    (c_over : PySem.W.codeIn K cd_over "over" = true)
    (k_over : PySem.W.keepIn K (.ref f_over) = true)
    (a_groups_at : PySem.W.nsIn K mainGlobals "groups_at" = some (some (.ref f_groups_at)))
    (l_groups_at : K.lookup f_groups_at = some ⟨oc_groups_at, od_groups_at, .func (PySem.W.fnOf "groups_at" "groups_at" (defArgs s_groups_at) (defBody s_groups_at) (defScope s_groups_at) .none kV_groups_at dc_groups_at pm_groups_at an_groups_at cd_groups_at ct_groups_at), sl_groups_at⟩)
    (c_groups_at : PySem.W.codeIn K cd_groups_at "groups_at" = true)
    (k_groups_at : PySem.W.keepIn K (.ref f_groups_at) = true)
    (a_look_at_weights : PySem.W.nsIn K mainGlobals "look_at_weights" = some (some (.ref f_look_at_weights)))
    (l_look_at_weights : K.lookup f_look_at_weights = some ⟨oc_look_at_weights, od_look_at_weights, .func (PySem.W.fnOf "look_at_weights" "look_at_weights" (defArgs s_look_at_weights) (defBody s_look_at_weights) (defScope s_look_at_weights) .none kV_look_at_weights dc_look_at_weights pm_look_at_weights an_look_at_weights cd_look_at_weights ct_look_at_weights), sl_look_at_weights⟩)
    (c_look_at_weights : PySem.W.codeIn K cd_look_at_weights "look_at_weights" = true)
    (k_look_at_weights : PySem.W.keepIn K (.ref f_look_at_weights) = true)
    (a_factor_of : PySem.W.nsIn K mainGlobals "factor_of" = some (some (.ref f_factor_of)))
    (l_factor_of : K.lookup f_factor_of = some ⟨oc_factor_of, od_factor_of, .func (PySem.W.fnOf "factor_of" "factor_of" (defArgs s_factor_of) (defBody s_factor_of) (defScope s_factor_of) .none kV_factor_of dc_factor_of pm_factor_of an_factor_of cd_factor_of ct_factor_of), sl_factor_of⟩)
    (c_factor_of : PySem.W.codeIn K cd_factor_of "factor_of" = true)
    (k_factor_of : PySem.W.keepIn K (.ref f_factor_of) = true)
    (a__law_gap : PySem.W.nsIn K mainGlobals "_law_gap" = some (some (.ref f__law_gap)))
    (l__law_gap : K.lookup f__law_gap = some ⟨oc__law_gap, od__law_gap, .func (PySem.W.fnOf "_law_gap" "_law_gap" (defArgs s__law_gap) (defBody s__law_gap) (defScope s__law_gap) .none kV__law_gap dc__law_gap pm__law_gap an__law_gap cd__law_gap ct__law_gap), sl__law_gap⟩)
    (c__law_gap : PySem.W.codeIn K cd__law_gap "_law_gap" = true)
    (k__law_gap : PySem.W.keepIn K (.ref f__law_gap) = true)
    (a__law_by : PySem.W.nsIn K mainGlobals "_law_by" = some (some (.ref f__law_by)))
    (l__law_by : K.lookup f__law_by = some ⟨oc__law_by, od__law_by, .func (PySem.W.fnOf "_law_by" "_law_by" (defArgs s__law_by) (defBody s__law_by) (defScope s__law_by) .none kV__law_by dc__law_by pm__law_by an__law_by cd__law_by ct__law_by), sl__law_by⟩)
    (c__law_by : PySem.W.codeIn K cd__law_by "_law_by" = true)
    (k__law_by : PySem.W.keepIn K (.ref f__law_by) = true)
    (a_place_at : PySem.W.nsIn K mainGlobals "place_at" = some (some (.ref f_place_at)))
    (l_place_at : K.lookup f_place_at = some ⟨oc_place_at, od_place_at, .func (PySem.W.fnOf "place_at" "place_at" (defArgs s_place_at) (defBody s_place_at) (defScope s_place_at) .none kV_place_at dc_place_at pm_place_at an_place_at cd_place_at ct_place_at), sl_place_at⟩)
    (c_place_at : PySem.W.codeIn K cd_place_at "place_at" = true)
    (k_place_at : PySem.W.keepIn K (.ref f_place_at) = true)
    (a_meeting_moment : PySem.W.nsIn K mainGlobals "meeting_moment" = some (some (.ref f_meeting_moment)))
    (l_meeting_moment : K.lookup f_meeting_moment = some ⟨oc_meeting_moment, od_meeting_moment, .func (PySem.W.fnOf "meeting_moment" "meeting_moment" (defArgs s_meeting_moment) (defBody s_meeting_moment) (defScope s_meeting_moment) .none kV_meeting_moment dc_meeting_moment pm_meeting_moment an_meeting_moment cd_meeting_moment ct_meeting_moment), sl_meeting_moment⟩)
    (c_meeting_moment : PySem.W.codeIn K cd_meeting_moment "meeting_moment" = true)
    (k_meeting_moment : PySem.W.keepIn K (.ref f_meeting_moment) = true)
    (a_two_speeds : PySem.W.nsIn K mainGlobals "two_speeds" = some (some (.ref f_two_speeds)))
    (l_two_speeds : K.lookup f_two_speeds = some ⟨oc_two_speeds, od_two_speeds, .func (PySem.W.fnOf "two_speeds" "two_speeds" (defArgs s_two_speeds) (defBody s_two_speeds) (defScope s_two_speeds) .none kV_two_speeds dc_two_speeds pm_two_speeds an_two_speeds cd_two_speeds ct_two_speeds), sl_two_speeds⟩)
    (c_two_speeds : PySem.W.codeIn K cd_two_speeds "two_speeds" = true)
    (k_two_speeds : PySem.W.keepIn K (.ref f_two_speeds) = true)
    (a_numbers_of : PySem.W.nsIn K mainGlobals "numbers_of" = some (some (.ref f_numbers_of)))
    (l_numbers_of : K.lookup f_numbers_of = some ⟨oc_numbers_of, od_numbers_of, .func (PySem.W.fnOf "numbers_of" "numbers_of" (defArgs s_numbers_of) (defBody s_numbers_of) (defScope s_numbers_of) .none kV_numbers_of dc_numbers_of pm_numbers_of an_numbers_of cd_numbers_of ct_numbers_of), sl_numbers_of⟩)
    (c_numbers_of : PySem.W.codeIn K cd_numbers_of "numbers_of" = true)
    (k_numbers_of : PySem.W.keepIn K (.ref f_numbers_of) = true)
    (a_beginning : PySem.W.nsIn K mainGlobals "beginning" = some (some (.ref f_beginning)))
    (l_beginning : K.lookup f_beginning = some ⟨oc_beginning, od_beginning, .func (PySem.W.fnOf "beginning" "beginning" (defArgs s_beginning) (defBody s_beginning) (defScope s_beginning) .none kV_beginning dc_beginning pm_beginning an_beginning cd_beginning ct_beginning), sl_beginning⟩)
    (c_beginning : PySem.W.codeIn K cd_beginning "beginning" = true)
    (k_beginning : PySem.W.keepIn K (.ref f_beginning) = true)
    (a__law_numbers : PySem.W.nsIn K mainGlobals "_law_numbers" = some (some (.ref f__law_numbers)))
    (l__law_numbers : K.lookup f__law_numbers = some ⟨oc__law_numbers, od__law_numbers, .func (PySem.W.fnOf "_law_numbers" "_law_numbers" (defArgs s__law_numbers) (defBody s__law_numbers) (defScope s__law_numbers) .none kV__law_numbers dc__law_numbers pm__law_numbers an__law_numbers cd__law_numbers ct__law_numbers), sl__law_numbers⟩)
    (c__law_numbers : PySem.W.codeIn K cd__law_numbers "_law_numbers" = true)
    (k__law_numbers : PySem.W.keepIn K (.ref f__law_numbers) = true)
    (a_gone_on : PySem.W.nsIn K mainGlobals "gone_on" = some (some (.ref f_gone_on)))
    (l_gone_on : K.lookup f_gone_on = some ⟨oc_gone_on, od_gone_on, .func (PySem.W.fnOf "gone_on" "gone_on" (defArgs s_gone_on) (defBody s_gone_on) (defScope s_gone_on) .none kV_gone_on dc_gone_on pm_gone_on an_gone_on cd_gone_on ct_gone_on), sl_gone_on⟩)
    (c_gone_on : PySem.W.codeIn K cd_gone_on "gone_on" = true)
    (k_gone_on : PySem.W.keepIn K (.ref f_gone_on) = true)
    (a_least_moment : PySem.W.nsIn K mainGlobals "least_moment" = some (some (.ref f_least_moment)))
    (l_least_moment : K.lookup f_least_moment = some ⟨oc_least_moment, od_least_moment, .func (PySem.W.fnOf "least_moment" "least_moment" (defArgs s_least_moment) (defBody s_least_moment) (defScope s_least_moment) .none kV_least_moment dc_least_moment pm_least_moment an_least_moment cd_least_moment ct_least_moment), sl_least_moment⟩)
    (c_least_moment : PySem.W.codeIn K cd_least_moment "least_moment" = true)
    (k_least_moment : PySem.W.keepIn K (.ref f_least_moment) = true)
    (a_together_speeds : PySem.W.nsIn K mainGlobals "together_speeds" = some (some (.ref f_together_speeds)))
    (l_together_speeds : K.lookup f_together_speeds = some ⟨oc_together_speeds, od_together_speeds, .func (PySem.W.fnOf "together_speeds" "together_speeds" (defArgs s_together_speeds) (defBody s_together_speeds) (defScope s_together_speeds) .none kV_together_speeds dc_together_speeds pm_together_speeds an_together_speeds cd_together_speeds ct_together_speeds), sl_together_speeds⟩)
    (c_together_speeds : PySem.W.codeIn K cd_together_speeds "together_speeds" = true)
    (k_together_speeds : PySem.W.keepIn K (.ref f_together_speeds) = true)
    (a_walls_at : PySem.W.nsIn K mainGlobals "walls_at" = some (some (.ref f_walls_at)))
    (l_walls_at : K.lookup f_walls_at = some ⟨oc_walls_at, od_walls_at, .func (PySem.W.fnOf "walls_at" "walls_at" (defArgs s_walls_at) (defBody s_walls_at) (defScope s_walls_at) .none kV_walls_at dc_walls_at pm_walls_at an_walls_at cd_walls_at ct_walls_at), sl_walls_at⟩)
    (c_walls_at : PySem.W.codeIn K cd_walls_at "walls_at" = true)
    (k_walls_at : PySem.W.keepIn K (.ref f_walls_at) = true)
    (a_row_at : PySem.W.nsIn K mainGlobals "row_at" = some (some (.ref f_row_at)))
    (l_row_at : K.lookup f_row_at = some ⟨oc_row_at, od_row_at, .func (PySem.W.fnOf "row_at" "row_at" (defArgs s_row_at) (defBody s_row_at) (defScope s_row_at) .none kV_row_at dc_row_at pm_row_at an_row_at cd_row_at ct_row_at), sl_row_at⟩)
    (c_row_at : PySem.W.codeIn K cd_row_at "row_at" = true)
    (k_row_at : PySem.W.keepIn K (.ref f_row_at) = true)
    (a_rebounded : PySem.W.nsIn K mainGlobals "rebounded" = some (some (.ref f_rebounded)))
    (l_rebounded : K.lookup f_rebounded = some ⟨oc_rebounded, od_rebounded, .func (PySem.W.fnOf "rebounded" "rebounded" (defArgs s_rebounded) (defBody s_rebounded) (defScope s_rebounded) .none kV_rebounded dc_rebounded pm_rebounded an_rebounded cd_rebounded ct_rebounded), sl_rebounded⟩)
    (c_rebounded : PySem.W.codeIn K cd_rebounded "rebounded" = true)
    (k_rebounded : PySem.W.keepIn K (.ref f_rebounded) = true)
    (a_Way_coming_by : PySem.W.findIn K (.ref C_Way) "coming_by" = some (some (.ref f_Way_coming_by)))
    (i_Way_coming_by : PySem.W.isFn K (.ref f_Way_coming_by) = true)
    (l_Way_coming_by : K.lookup f_Way_coming_by = some ⟨oc_Way_coming_by, od_Way_coming_by, .func (PySem.W.fnOf "coming_by" "Way.coming_by" (defArgs s_Way_coming_by) (defBody s_Way_coming_by) (defScope s_Way_coming_by) .none kV_Way_coming_by dc_Way_coming_by pm_Way_coming_by an_Way_coming_by cd_Way_coming_by ct_Way_coming_by), sl_Way_coming_by⟩)
    (c_Way_coming_by : PySem.W.codeIn K cd_Way_coming_by "Way.coming_by" = true)
    (k_Way_coming_by : PySem.W.keepIn K (.ref f_Way_coming_by) = true)
    (a_Way_go_on : PySem.W.findIn K (.ref C_Way) "go_on" = some (some (.ref f_Way_go_on)))
    (i_Way_go_on : PySem.W.isFn K (.ref f_Way_go_on) = true)
    (l_Way_go_on : K.lookup f_Way_go_on = some ⟨oc_Way_go_on, od_Way_go_on, .func (PySem.W.fnOf "go_on" "Way.go_on" (defArgs s_Way_go_on) (defBody s_Way_go_on) (defScope s_Way_go_on) .none kV_Way_go_on dc_Way_go_on pm_Way_go_on an_Way_go_on cd_Way_go_on ct_Way_go_on), sl_Way_go_on⟩)
    (c_Way_go_on : PySem.W.codeIn K cd_Way_go_on "Way.go_on" = true)
    (k_Way_go_on : PySem.W.keepIn K (.ref f_Way_go_on) = true)
    (a_Way_come : PySem.W.findIn K (.ref C_Way) "come" = some (some (.ref f_Way_come)))
    (i_Way_come : PySem.W.isFn K (.ref f_Way_come) = true)
    (l_Way_come : K.lookup f_Way_come = some ⟨oc_Way_come, od_Way_come, .func (PySem.W.fnOf "come" "Way.come" (defArgs s_Way_come) (defBody s_Way_come) (defScope s_Way_come) .none kV_Way_come dc_Way_come pm_Way_come an_Way_come cd_Way_come ct_Way_come), sl_Way_come⟩)
    (c_Way_come : PySem.W.codeIn K cd_Way_come "Way.come" = true)
    (k_Way_come : PySem.W.keepIn K (.ref f_Way_come) = true)
    (a_Way_walk : PySem.W.findIn K (.ref C_Way) "walk" = some (some (.ref f_Way_walk)))
    (i_Way_walk : PySem.W.isFn K (.ref f_Way_walk) = true)
    (l_Way_walk : K.lookup f_Way_walk = some ⟨oc_Way_walk, od_Way_walk, .func (PySem.W.fnOf "walk" "Way.walk" (defArgs s_Way_walk) (defBody s_Way_walk) (defScope s_Way_walk) .none kV_Way_walk dc_Way_walk pm_Way_walk an_Way_walk cd_Way_walk ct_Way_walk), sl_Way_walk⟩)
    (c_Way_walk : PySem.W.codeIn K cd_Way_walk "Way.walk" = true)
    (k_Way_walk : PySem.W.keepIn K (.ref f_Way_walk) = true)
    (a_ended : PySem.W.nsIn K mainGlobals "ended" = some (some (.ref f_ended)))
    (l_ended : K.lookup f_ended = some ⟨oc_ended, od_ended, .func (PySem.W.fnOf "ended" "ended" (defArgs s_ended) (defBody s_ended) (defScope s_ended) .none kV_ended dc_ended pm_ended an_ended cd_ended ct_ended), sl_ended⟩)
    (c_ended : PySem.W.codeIn K cd_ended "ended" = true)
    (k_ended : PySem.W.keepIn K (.ref f_ended) = true)
    (a_groups_from : PySem.W.nsIn K mainGlobals "groups_from" = some (some (.ref f_groups_from)))
    (l_groups_from : K.lookup f_groups_from = some ⟨oc_groups_from, od_groups_from, .func (PySem.W.fnOf "groups_from" "groups_from" (defArgs s_groups_from) (defBody s_groups_from) (defScope s_groups_from) .none kV_groups_from dc_groups_from pm_groups_from an_groups_from cd_groups_from ct_groups_from), sl_groups_from⟩)
    (c_groups_from : PySem.W.codeIn K cd_groups_from "groups_from" = true)
    (k_groups_from : PySem.W.keepIn K (.ref f_groups_from) = true)
    (a_most_of : PySem.W.nsIn K mainGlobals "most_of" = some (some (.ref f_most_of)))
    (l_most_of : K.lookup f_most_of = some ⟨oc_most_of, od_most_of, .func (PySem.W.fnOf "most_of" "most_of" (defArgs s_most_of) (defBody s_most_of) (defScope s_most_of) .none kV_most_of dc_most_of pm_most_of an_most_of cd_most_of ct_most_of), sl_most_of⟩)
    (c_most_of : PySem.W.codeIn K cd_most_of "most_of" = true)
    (k_most_of : PySem.W.keepIn K (.ref f_most_of) = true)
    (a_law : PySem.W.nsIn K mainGlobals "law" = some (some (.ref f_law)))
    (l_law : K.lookup f_law = some ⟨oc_law, od_law, .func (PySem.W.fnOf "law" "law" (defArgs s_law) (defBody s_law) (defScope s_law) .none kV_law dc_law pm_law an_law cd_law ct_law), sl_law⟩)
    (c_law : PySem.W.codeIn K cd_law "law" = true)
    (k_law : PySem.W.keepIn K (.ref f_law) = true)
    (z_abs : PySem.W.nsIn K mainGlobals "abs" = some none)
    (z_all : PySem.W.nsIn K mainGlobals "all" = some none)
    (z_any : PySem.W.nsIn K mainGlobals "any" = some none)
    (z_bool : PySem.W.nsIn K mainGlobals "bool" = some none)
    (z_enumerate : PySem.W.nsIn K mainGlobals "enumerate" = some none)
    (z_int : PySem.W.nsIn K mainGlobals "int" = some none)
    (z_isinstance : PySem.W.nsIn K mainGlobals "isinstance" = some none)
    (z_len : PySem.W.nsIn K mainGlobals "len" = some none)
    (z_list : PySem.W.nsIn K mainGlobals "list" = some none)
    (z_max : PySem.W.nsIn K mainGlobals "max" = some none)
    (z_range : PySem.W.nsIn K mainGlobals "range" = some none)
    (z_tuple : PySem.W.nsIn K mainGlobals "tuple" = some none)
    (z_zip : PySem.W.nsIn K mainGlobals "zip" = some none)
    (g_GREATEST : PySem.W.nsIn K mainGlobals "GREATEST" = some (some (.int 1000 tk_GREATEST)))
    (g_HIGH : PySem.W.nsIn K mainGlobals "HIGH" = some (some (.int 1 tk_HIGH)))
    (g_LOW : PySem.W.nsIn K mainGlobals "LOW" = some (some (.int 0 tk_LOW)))
    (g_MOST_GROUPS : PySem.W.nsIn K mainGlobals "MOST_GROUPS" = some (some (.int 400 tk_MOST_GROUPS)))
    (g_NOUGHT : PySem.W.nsIn K mainGlobals "NOUGHT" = some (some (.ref ga_NOUGHT)))
    (gl_NOUGHT : K.lookup ga_NOUGHT = some ⟨.type "tuple", god_NOUGHT, .seq #[.int 0 gt0_NOUGHT, .int 1 gt1_NOUGHT] gn_NOUGHT, gsl_NOUGHT⟩)
    (g_ONE : PySem.W.nsIn K mainGlobals "ONE" = some (some (.ref ga_ONE)))
    (gl_ONE : K.lookup ga_ONE = some ⟨.type "tuple", god_ONE, .seq #[.int 1 gt0_ONE, .int 1 gt1_ONE] gn_ONE, gsl_ONE⟩)
    (g_PLACE : PySem.W.nsIn K mainGlobals "PLACE" = some (some (.int 0 tk_PLACE)))
    (g_SPEED : PySem.W.nsIn K mainGlobals "SPEED" = some (some (.int 1 tk_SPEED)))
    (g_WEIGHT : PySem.W.nsIn K mainGlobals "WEIGHT" = some (some (.int 2 tk_WEIGHT)))
    : ∃ fd : FuncData, (∀ (s : Shared) (v : Value), BindsTo s fd ⟨[v], []⟩ [("script", v)]) ∧ ∀ base : Heap, K.In base → base.Ns mainGlobals mg → FnOk P w K mg base CX0 13 fa fd ["script"] (spD K Ph_law) := by
  have e := hfa.symm.trans (PySem.W.mg_of X G a_law)
  cases e
  have T : Txt K mg ⟨ga_NOUGHT, ga_ONE⟩ := ⟨PySem.W.mg_none_of X G z_abs, PySem.W.mg_none_of X G z_all, PySem.W.mg_none_of X G z_any, PySem.W.mg_none_of X G z_bool, PySem.W.mg_none_of X G z_enumerate, PySem.W.mg_none_of X G z_int, PySem.W.mg_none_of X G z_isinstance, PySem.W.mg_none_of X G z_len, PySem.W.mg_none_of X G z_list, PySem.W.mg_none_of X G z_max, PySem.W.mg_none_of X G z_range, PySem.W.mg_none_of X G z_tuple, PySem.W.mg_none_of X G z_zip, ⟨_, PySem.W.mg_of X G g_GREATEST, ⟨tk_GREATEST, rfl⟩⟩, ⟨_, PySem.W.mg_of X G g_HIGH, ⟨tk_HIGH, rfl⟩⟩, ⟨_, PySem.W.mg_of X G g_LOW, ⟨tk_LOW, rfl⟩⟩, ⟨_, PySem.W.mg_of X G g_MOST_GROUPS, ⟨tk_MOST_GROUPS, rfl⟩⟩, PySem.W.mg_of X G g_NOUGHT, fun _ => .t (.inr ⟨_, #[.int 0 gt0_NOUGHT, .int 1 gt1_NOUGHT], _, gl_NOUGHT, rfl, rfl, (by show 2 ≤ sizeLine; decide), .cons (rel_int _ _) (.cons (rel_int _ _) (.nil))⟩) (.cons .v (.cons .v .nil)), PySem.W.mg_of X G g_ONE, fun _ => .t (.inr ⟨_, #[.int 1 gt0_ONE, .int 1 gt1_ONE], _, gl_ONE, rfl, rfl, (by show 2 ≤ sizeLine; decide), .cons (rel_int _ _) (.cons (rel_int _ _) (.nil))⟩) (.cons .v (.cons .v .nil)), ⟨_, PySem.W.mg_of X G g_PLACE, ⟨tk_PLACE, rfl⟩⟩, ⟨_, PySem.W.mg_of X G g_SPEED, ⟨tk_SPEED, rfl⟩⟩, ⟨_, PySem.W.mg_of X G g_WEIGHT, ⟨tk_WEIGHT, rfl⟩⟩⟩
  have F_is_whole := fun_mk (st := s_is_whole) l_is_whole c_is_whole k_is_whole
  have b_is_whole := F_is_whole.binds (ps := ["thing"]) fun _ _ _ _ _ _ us hl => match us, hl with | [_], _ => rfl
  have F_divisor_of := fun_mk (st := s_divisor_of) l_divisor_of c_divisor_of k_divisor_of
  have b_divisor_of := F_divisor_of.binds (ps := ["one", "other"]) fun _ _ _ _ _ _ us hl => match us, hl with | [_, _], _ => rfl
  have F_less := fun_mk (st := s_less) l_less c_less k_less
  have b_less := F_less.binds (ps := ["one", "other"]) fun _ _ _ _ _ _ us hl => match us, hl with | [_, _], _ => rfl
  have F_wall_named := fun_mk (st := s_wall_named) l_wall_named c_wall_named k_wall_named
  have b_wall_named := F_wall_named.binds (ps := ["walls", "where"]) fun _ _ _ _ _ _ us hl => match us, hl with | [_, _], _ => rfl
  have F_wall_there := fun_mk (st := s_wall_there) l_wall_there c_wall_there k_wall_there
  have b_wall_there := F_wall_there.binds (ps := ["walls", "place"]) fun _ _ _ _ _ _ us hl => match us, hl with | [_, _], _ => rfl
  have F_Way___init__ := fun_mk (st := s_Way___init__) l_Way___init__ c_Way___init__ k_Way___init__
  have b_Way___init__ := F_Way___init__.binds (ps := ["self", "row", "walls"]) fun _ _ _ _ _ _ us hl => match us, hl with | [_, _, _], _ => rfl
  have F__law_cell := fun_mk (st := s__law_cell) l__law_cell c__law_cell k__law_cell
  have b__law_cell := F__law_cell.binds (ps := ["script", "k"]) fun _ _ _ _ _ _ us hl => match us, hl with | [_, _], _ => rfl
  have F__law_pool := fun_mk (st := s__law_pool) l__law_pool c__law_pool k__law_pool
  have b__law_pool := F__law_pool.binds (ps := ["cell"]) fun _ _ _ _ _ _ us hl => match us, hl with | [_], _ => rfl
  have F__law_next := fun_mk (st := s__law_next) l__law_next c__law_next k__law_next
  have b__law_next := F__law_next.binds (ps := ["pool", "base"]) fun _ _ _ _ _ _ us hl => match us, hl with | [_, _], _ => rfl
  have F__law_common := fun_mk (st := s__law_common) l__law_common c__law_common k__law_common
  have b__law_common := F__law_common.binds (ps := ["one", "other"]) fun _ _ _ _ _ _ us hl => match us, hl with | [_, _], _ => rfl
  have F__law_known := fun_mk (st := s__law_known) l__law_known c__law_known k__law_known
  have b__law_known := F__law_known.binds (ps := []) fun _ _ _ _ _ _ us hl => match us, hl with | [], _ => rfl
  have F_ratio : C8.Fun K "ratio" "ratio" s_ratio f_ratio _ := ⟨⟨_, _, _, _, _, _, _, _, _, _, rfl, l_ratio, c_ratio⟩⟩
  have D_ratio : FunD K "ratio" "ratio" (C8.fnArgs s_ratio) (C8.fnBody s_ratio) (C8.fnScope s_ratio) [V.int 1] [] f_ratio _ := ⟨⟨_, _, _, _, _, _, _, _, _, _, rfl, l_ratio, c_ratio, .inr ⟨by simp, _, _, [.int 1 t0_ratio], _, rfl, lT_ratio, rfl, .cons (rel_int _ _) (.nil)⟩, .inl rfl⟩, k_ratio⟩
  have b1_ratio := D_ratio.binds1 (ps := ["top", "bottom"]) 1 0 (by simp) rfl fun _ _ _ _ _ _ _ us its hu hi => match us, its, hu, hi with | [_], [_], _, _ => ⟨_, rfl, rfl⟩
  have b2_ratio := D_ratio.binds1 (ps := ["top", "bottom"]) 2 1 (by simp) rfl fun _ _ _ _ _ _ _ us its hu hi => match us, its, hu, hi with | [_, _], [_], _, _ => ⟨_, rfl, rfl⟩
  have F_comes_to := fun_mk (st := s_comes_to) l_comes_to c_comes_to k_comes_to
  have b_comes_to := F_comes_to.binds (ps := ["ball", "walls", "where"]) fun _ _ _ _ _ _ us hl => match us, hl with | [_, _, _], _ => rfl
  have F_rising := fun_mk (st := s_rising) l_rising c_rising k_rising
  have b_rising := F_rising.binds (ps := ["ratios"]) fun _ _ _ _ _ _ us hl => match us, hl with | [_], _ => rfl
  have F_is_weight := fun_mk (st := s_is_weight) l_is_weight c_is_weight k_is_weight
  have b_is_weight := F_is_weight.binds (ps := ["thing"]) fun _ _ _ _ _ _ us hl => match us, hl with | [_], _ => rfl
  have F__law_low := fun_mk (st := s__law_low) l__law_low c__law_low k__law_low
  have b__law_low := F__law_low.binds (ps := ["top", "bottom"]) fun _ _ _ _ _ _ us hl => match us, hl with | [_, _], _ => rfl
  have F__law_three := fun_mk (st := s__law_three) l__law_three c__law_three k__law_three
  have b__law_three := F__law_three.binds (ps := ["pool"]) fun _ _ _ _ _ _ us hl => match us, hl with | [_], _ => rfl
  have F_plus := fun_mk (st := s_plus) l_plus c_plus k_plus
  have b_plus := F_plus.binds (ps := ["one", "other"]) fun _ _ _ _ _ _ us hl => match us, hl with | [_, _], _ => rfl
  have F_minus := fun_mk (st := s_minus) l_minus c_minus k_minus
  have b_minus := F_minus.binds (ps := ["one", "other"]) fun _ _ _ _ _ _ us hl => match us, hl with | [_, _], _ => rfl
  have F_times := fun_mk (st := s_times) l_times c_times k_times
  have b_times := F_times.binds (ps := ["one", "other"]) fun _ _ _ _ _ _ us hl => match us, hl with | [_, _], _ => rfl
  have F_over := fun_mk (st := s_over) l_over c_over k_over
  have b_over := F_over.binds (ps := ["one", "other"]) fun _ _ _ _ _ _ us hl => match us, hl with | [_, _], _ => rfl
  have F_groups_at := fun_mk (st := s_groups_at) l_groups_at c_groups_at k_groups_at
  have b_groups_at := F_groups_at.binds (ps := ["row", "walls"]) fun _ _ _ _ _ _ us hl => match us, hl with | [_, _], _ => rfl
  have F_look_at_weights := fun_mk (st := s_look_at_weights) l_look_at_weights c_look_at_weights k_look_at_weights
  have b_look_at_weights := F_look_at_weights.binds (ps := ["weights"]) fun _ _ _ _ _ _ us hl => match us, hl with | [_], _ => rfl
  have F_factor_of := fun_mk (st := s_factor_of) l_factor_of c_factor_of k_factor_of
  have b_factor_of := F_factor_of.binds (ps := ["weights"]) fun _ _ _ _ _ _ us hl => match us, hl with | [_], _ => rfl
  have F__law_gap := fun_mk (st := s__law_gap) l__law_gap c__law_gap k__law_gap
  have b__law_gap := F__law_gap.binds (ps := ["one", "other"]) fun _ _ _ _ _ _ us hl => match us, hl with | [_, _], _ => rfl
  have F__law_by := fun_mk (st := s__law_by) l__law_by c__law_by k__law_by
  have b__law_by := F__law_by.binds (ps := ["one", "other"]) fun _ _ _ _ _ _ us hl => match us, hl with | [_, _], _ => rfl
  have F_place_at := fun_mk (st := s_place_at) l_place_at c_place_at k_place_at
  have b_place_at := F_place_at.binds (ps := ["thing", "t"]) fun _ _ _ _ _ _ us hl => match us, hl with | [_, _], _ => rfl
  have F_meeting_moment := fun_mk (st := s_meeting_moment) l_meeting_moment c_meeting_moment k_meeting_moment
  have b_meeting_moment := F_meeting_moment.binds (ps := ["left", "right"]) fun _ _ _ _ _ _ us hl => match us, hl with | [_, _], _ => rfl
  have F_two_speeds := fun_mk (st := s_two_speeds) l_two_speeds c_two_speeds k_two_speeds
  have b_two_speeds := F_two_speeds.binds (ps := ["left", "right"]) fun _ _ _ _ _ _ us hl => match us, hl with | [_, _], _ => rfl
  have F_numbers_of := fun_mk (st := s_numbers_of) l_numbers_of c_numbers_of k_numbers_of
  have b_numbers_of := F_numbers_of.binds (ps := ["weights"]) fun _ _ _ _ _ _ us hl => match us, hl with | [_], _ => rfl
  have F_beginning := fun_mk (st := s_beginning) l_beginning c_beginning k_beginning
  have b_beginning := F_beginning.binds (ps := ["weights", "small"]) fun _ _ _ _ _ _ us hl => match us, hl with | [_, _], _ => rfl
  have F__law_numbers := fun_mk (st := s__law_numbers) l__law_numbers c__law_numbers k__law_numbers
  have b__law_numbers := F__law_numbers.binds (ps := ["weights"]) fun _ _ _ _ _ _ us hl => match us, hl with | [_], _ => rfl
  have F_gone_on := fun_mk (st := s_gone_on) l_gone_on c_gone_on k_gone_on
  have b_gone_on := F_gone_on.binds (ps := ["thing", "t"]) fun _ _ _ _ _ _ us hl => match us, hl with | [_, _], _ => rfl
  have F_least_moment := fun_mk (st := s_least_moment) l_least_moment c_least_moment k_least_moment
  have b_least_moment := F_least_moment.binds (ps := ["row", "walls"]) fun _ _ _ _ _ _ us hl => match us, hl with | [_, _], _ => rfl
  have F_together_speeds := fun_mk (st := s_together_speeds) l_together_speeds c_together_speeds k_together_speeds
  have b_together_speeds := F_together_speeds.binds (ps := ["balls", "wall", "moment"]) fun _ _ _ _ _ _ us hl => match us, hl with | [_, _, _], _ => rfl
  have F_walls_at := fun_mk (st := s_walls_at) l_walls_at c_walls_at k_walls_at
  have b_walls_at := F_walls_at.binds (ps := ["walls", "t"]) fun _ _ _ _ _ _ us hl => match us, hl with | [_, _], _ => rfl
  have F_row_at := fun_mk (st := s_row_at) l_row_at c_row_at k_row_at
  have b_row_at := F_row_at.binds (ps := ["row", "t"]) fun _ _ _ _ _ _ us hl => match us, hl with | [_, _], _ => rfl
  have F_rebounded := fun_mk (st := s_rebounded) l_rebounded c_rebounded k_rebounded
  have b_rebounded := F_rebounded.binds (ps := ["row", "walls", "groups", "moment"]) fun _ _ _ _ _ _ us hl => match us, hl with | [_, _, _, _], _ => rfl
  have F_Way_coming_by := fun_mk (st := s_Way_coming_by) l_Way_coming_by c_Way_coming_by k_Way_coming_by
  have b_Way_coming_by := F_Way_coming_by.binds (ps := ["self", "t"]) fun _ _ _ _ _ _ us hl => match us, hl with | [_, _], _ => rfl
  have F_Way_go_on := fun_mk (st := s_Way_go_on) l_Way_go_on c_Way_go_on k_Way_go_on
  have b_Way_go_on := F_Way_go_on.binds (ps := ["self", "far"]) fun _ _ _ _ _ _ us hl => match us, hl with | [_, _], _ => rfl
  have F_Way_come := fun_mk (st := s_Way_come) l_Way_come c_Way_come k_Way_come
  have b_Way_come := F_Way_come.binds (ps := ["self", "far"]) fun _ _ _ _ _ _ us hl => match us, hl with | [_, _], _ => rfl
  have F_Way_walk := fun_mk (st := s_Way_walk) l_Way_walk c_Way_walk k_Way_walk
  have b_Way_walk := F_Way_walk.binds (ps := ["self", "t"]) fun _ _ _ _ _ _ us hl => match us, hl with | [_, _], _ => rfl
  have F_ended := fun_mk (st := s_ended) l_ended c_ended k_ended
  have b_ended := F_ended.binds (ps := ["row", "walls"]) fun _ _ _ _ _ _ us hl => match us, hl with | [_, _], _ => rfl
  have F_groups_from := fun_mk (st := s_groups_from) l_groups_from c_groups_from k_groups_from
  have b_groups_from := F_groups_from.binds (ps := ["row", "walls"]) fun _ _ _ _ _ _ us hl => match us, hl with | [_, _], _ => rfl
  have F_most_of := fun_mk (st := s_most_of) l_most_of c_most_of k_most_of
  have b_most_of := F_most_of.binds (ps := ["weights"]) fun _ _ _ _ _ _ us hl => match us, hl with | [_], _ => rfl
  have F_law := fun_mk (st := s_law) l_law c_law k_law
  have b_law := F_law.binds (ps := ["script"]) fun _ _ _ _ _ _ us hl => match us, hl with | [_], _ => rfl
  have K_Way : WayK K C_Way := ⟨⟨pg_Way, hd_Way, po_Way, sa_Way⟩, no_Way_row, no_Way_walls, no_Way_moment, no_Way_comings⟩
  refine ⟨PySem.W.fnOf "law" "law" (defArgs s_law) (defBody s_law) (defScope s_law) .none kV_law dc_law pm_law an_law cd_law ct_law, fun s v => .of_eq rfl, fun base _ _ => ?_⟩
  have q_is_whole : Cal P w K mg base 1 "is_whole" Ph_is_whole [] := ⟨⟨_, _, _, [], ok_is_whole F_is_whole T  , PySem.W.mg_of X G a_is_whole, k_is_whole, b_is_whole, .nil⟩⟩
  have q_divisor_of : Cal P w K mg base 1 "divisor_of" Ph_divisor_of [] := ⟨⟨_, _, _, [], ok_divisor_of F_divisor_of T  , PySem.W.mg_of X G a_divisor_of, k_divisor_of, b_divisor_of, .nil⟩⟩
  have q_less : Cal P w K mg base 1 "less" Ph_less [] := ⟨⟨_, _, _, [], ok_less F_less T  , PySem.W.mg_of X G a_less, k_less, b_less, .nil⟩⟩
  have q_wall_named : Cal P w K mg base 1 "wall_named" Ph_wall_named [] := ⟨⟨_, _, _, [], ok_wall_named F_wall_named T  , PySem.W.mg_of X G a_wall_named, k_wall_named, b_wall_named, .nil⟩⟩
  have q_wall_there : Cal P w K mg base 1 "wall_there" Ph_wall_there [] := ⟨⟨_, _, _, [], ok_wall_there F_wall_there T  , PySem.W.mg_of X G a_wall_there, k_wall_there, b_wall_there, .nil⟩⟩
  have q_Way : Mak P w K mg base 1 "Way" C_Way (Ph_Way___init__ C_Way) := ⟨⟨_, _, _, ⟨mk_Way, a_Way___init__, i_Way___init__, kc_Way⟩, ok_Way___init__ F_Way___init__ T  K_Way, PySem.W.mg_of X G aC_Way, b_Way___init__⟩⟩
  have q__law_cell : Cal P w K mg base 1 "_law_cell" Ph__law_cell [] := ⟨⟨_, _, _, [], ok__law_cell F__law_cell T  , PySem.W.mg_of X G a__law_cell, k__law_cell, b__law_cell, .nil⟩⟩
  have q__law_pool : Cal P w K mg base 1 "_law_pool" Ph__law_pool [] := ⟨⟨_, _, _, [], ok__law_pool F__law_pool T  , PySem.W.mg_of X G a__law_pool, k__law_pool, b__law_pool, .nil⟩⟩
  have q__law_next : Cal P w K mg base 1 "_law_next" Ph__law_next [] := ⟨⟨_, _, _, [], ok__law_next F__law_next T  , PySem.W.mg_of X G a__law_next, k__law_next, b__law_next, .nil⟩⟩
  have q__law_common : Cal P w K mg base 1 "_law_common" Ph__law_common [] := ⟨⟨_, _, _, [], ok__law_common F__law_common T  , PySem.W.mg_of X G a__law_common, k__law_common, b__law_common, .nil⟩⟩
  have q__law_known : Cal P w K mg base 1 "_law_known" Ph__law_known [] := ⟨⟨_, _, _, [], ok__law_known F__law_known T  , PySem.W.mg_of X G a__law_known, k__law_known, b__law_known, .nil⟩⟩
  have q_ratio_1 : Cal P w K mg base 2 "ratio" Ph_ratio [V.int 1] := by
    obtain ⟨ds, hv, hb⟩ := b1_ratio
    exact ⟨⟨_, _, _, ds, ok_ratio F_ratio T q_divisor_of q_is_whole , PySem.W.mg_of X G a_ratio, k_ratio, hb, hv⟩⟩
  have q_ratio : Cal P w K mg base 2 "ratio" Ph_ratio [] := by
    obtain ⟨ds, hv, hb⟩ := b2_ratio
    exact ⟨⟨_, _, _, ds, ok_ratio F_ratio T q_divisor_of q_is_whole , PySem.W.mg_of X G a_ratio, k_ratio, hb, hv⟩⟩
  have q_comes_to : Cal P w K mg base 2 "comes_to" Ph_comes_to [] := ⟨⟨_, _, _, [], ok_comes_to F_comes_to T q_less , PySem.W.mg_of X G a_comes_to, k_comes_to, b_comes_to, .nil⟩⟩
  have q_rising : Cal P w K mg base 2 "rising" Ph_rising [] := ⟨⟨_, _, _, [], ok_rising F_rising T q_less , PySem.W.mg_of X G a_rising, k_rising, b_rising, .nil⟩⟩
  have q_is_weight : Cal P w K mg base 2 "is_weight" Ph_is_weight [] := ⟨⟨_, _, _, [], ok_is_weight F_is_weight T q_is_whole , PySem.W.mg_of X G a_is_weight, k_is_weight, b_is_weight, .nil⟩⟩
  have q__law_low : Cal P w K mg base 2 "_law_low" Ph__law_low [] := ⟨⟨_, _, _, [], ok__law_low F__law_low T q__law_common , PySem.W.mg_of X G a__law_low, k__law_low, b__law_low, .nil⟩⟩
  have q__law_three : Cal P w K mg base 2 "_law_three" Ph__law_three [] := ⟨⟨_, _, _, [], ok__law_three F__law_three T q__law_next , PySem.W.mg_of X G a__law_three, k__law_three, b__law_three, .nil⟩⟩
  have q_plus : Cal P w K mg base 3 "plus" Ph_plus [] := ⟨⟨_, _, _, [], ok_plus F_plus T q_ratio , PySem.W.mg_of X G a_plus, k_plus, b_plus, .nil⟩⟩
  have q_minus : Cal P w K mg base 3 "minus" Ph_minus [] := ⟨⟨_, _, _, [], ok_minus F_minus T q_ratio , PySem.W.mg_of X G a_minus, k_minus, b_minus, .nil⟩⟩
  have q_times : Cal P w K mg base 3 "times" Ph_times [] := ⟨⟨_, _, _, [], ok_times F_times T q_ratio , PySem.W.mg_of X G a_times, k_times, b_times, .nil⟩⟩
  have q_over : Cal P w K mg base 3 "over" Ph_over [] := ⟨⟨_, _, _, [], ok_over F_over T q_ratio , PySem.W.mg_of X G a_over, k_over, b_over, .nil⟩⟩
  have q_groups_at : Cal P w K mg base 3 "groups_at" Ph_groups_at [] := ⟨⟨_, _, _, [], ok_groups_at F_groups_at T q_comes_to q_wall_there , PySem.W.mg_of X G a_groups_at, k_groups_at, b_groups_at, .nil⟩⟩
  have q_look_at_weights : Cal P w K mg base 3 "look_at_weights" Ph_look_at_weights [] := ⟨⟨_, _, _, [], ok_look_at_weights F_look_at_weights T q_is_weight , PySem.W.mg_of X G a_look_at_weights, k_look_at_weights, b_look_at_weights, .nil⟩⟩
  have q_factor_of : Cal P w K mg base 3 "factor_of" Ph_factor_of [] := ⟨⟨_, _, _, [], ok_factor_of F_factor_of T q_ratio , PySem.W.mg_of X G a_factor_of, k_factor_of, b_factor_of, .nil⟩⟩
  have q__law_gap : Cal P w K mg base 3 "_law_gap" Ph__law_gap [] := ⟨⟨_, _, _, [], ok__law_gap F__law_gap T q__law_low , PySem.W.mg_of X G a__law_gap, k__law_gap, b__law_gap, .nil⟩⟩
  have q__law_by : Cal P w K mg base 3 "_law_by" Ph__law_by [] := ⟨⟨_, _, _, [], ok__law_by F__law_by T q__law_low , PySem.W.mg_of X G a__law_by, k__law_by, b__law_by, .nil⟩⟩
  have q_place_at : Cal P w K mg base 4 "place_at" Ph_place_at [] := ⟨⟨_, _, _, [], ok_place_at F_place_at T q_plus q_times , PySem.W.mg_of X G a_place_at, k_place_at, b_place_at, .nil⟩⟩
  have q_meeting_moment : Cal P w K mg base 4 "meeting_moment" Ph_meeting_moment [] := ⟨⟨_, _, _, [], ok_meeting_moment F_meeting_moment T q_less q_minus q_over , PySem.W.mg_of X G a_meeting_moment, k_meeting_moment, b_meeting_moment, .nil⟩⟩
  have q_two_speeds : Cal P w K mg base 4 "two_speeds" Ph_two_speeds [] := ⟨⟨_, _, _, [], ok_two_speeds F_two_speeds T q_minus q_over q_plus q_ratio_1 q_times , PySem.W.mg_of X G a_two_speeds, k_two_speeds, b_two_speeds, .nil⟩⟩
  have q_numbers_of : Cal P w K mg base 4 "numbers_of" Ph_numbers_of [] := ⟨⟨_, _, _, [], ok_numbers_of F_numbers_of T q_factor_of q_minus q_times , PySem.W.mg_of X G a_numbers_of, k_numbers_of, b_numbers_of, .nil⟩⟩
  have q_beginning : Cal P w K mg base 4 "beginning" Ph_beginning [] := ⟨⟨_, _, _, [], ok_beginning F_beginning T q_minus , PySem.W.mg_of X G a_beginning, k_beginning, b_beginning, .nil⟩⟩
  have q__law_numbers : Cal P w K mg base 4 "_law_numbers" Ph__law_numbers [] := ⟨⟨_, _, _, [], ok__law_numbers F__law_numbers T q__law_by q__law_gap q__law_low , PySem.W.mg_of X G a__law_numbers, k__law_numbers, b__law_numbers, .nil⟩⟩
  have q_gone_on : Cal P w K mg base 5 "gone_on" Ph_gone_on [] := ⟨⟨_, _, _, [], ok_gone_on F_gone_on T q_place_at , PySem.W.mg_of X G a_gone_on, k_gone_on, b_gone_on, .nil⟩⟩
  have q_least_moment : Cal P w K mg base 5 "least_moment" Ph_least_moment [] := ⟨⟨_, _, _, [], ok_least_moment F_least_moment T q_less q_meeting_moment , PySem.W.mg_of X G a_least_moment, k_least_moment, b_least_moment, .nil⟩⟩
  have q_together_speeds : Cal P w K mg base 5 "together_speeds" Ph_together_speeds [] := ⟨⟨_, _, _, [], ok_together_speeds F_together_speeds T q_minus q_rising q_times q_two_speeds , PySem.W.mg_of X G a_together_speeds, k_together_speeds, b_together_speeds, .nil⟩⟩
  have q_walls_at : Cal P w K mg base 6 "walls_at" Ph_walls_at [] := ⟨⟨_, _, _, [], ok_walls_at F_walls_at T q_gone_on , PySem.W.mg_of X G a_walls_at, k_walls_at, b_walls_at, .nil⟩⟩
  have q_row_at : Cal P w K mg base 6 "row_at" Ph_row_at [] := ⟨⟨_, _, _, [], ok_row_at F_row_at T q_gone_on , PySem.W.mg_of X G a_row_at, k_row_at, b_row_at, .nil⟩⟩
  have q_rebounded : Cal P w K mg base 6 "rebounded" Ph_rebounded [] := ⟨⟨_, _, _, [], ok_rebounded F_rebounded T q_together_speeds q_wall_named , PySem.W.mg_of X G a_rebounded, k_rebounded, b_rebounded, .nil⟩⟩
  have q_Way_coming_by : Met P w K mg base 6 C_Way "coming_by" (Ph_Way_coming_by C_Way) := ⟨⟨_, _, _, K_Way.cls, ⟨a_Way_coming_by, i_Way_coming_by, k_Way_coming_by⟩, ok_Way_coming_by F_Way_coming_by T q_least_moment q_less q_plus K_Way, b_Way_coming_by⟩⟩
  have q_Way_go_on : Met P w K mg base 7 C_Way "go_on" (Ph_Way_go_on C_Way) := ⟨⟨_, _, _, K_Way.cls, ⟨a_Way_go_on, i_Way_go_on, k_Way_go_on⟩, ok_Way_go_on F_Way_go_on T q_plus q_row_at q_walls_at K_Way, b_Way_go_on⟩⟩
  have q_Way_come : Met P w K mg base 8 C_Way "come" (Ph_Way_come C_Way) := ⟨⟨_, _, _, K_Way.cls, ⟨a_Way_come, i_Way_come, k_Way_come⟩, ok_Way_come F_Way_come T q_Way_go_on q_groups_at q_rebounded K_Way, b_Way_come⟩⟩
  have q_Way_walk : Met P w K mg base 9 C_Way "walk" (Ph_Way_walk C_Way) := ⟨⟨_, _, _, K_Way.cls, ⟨a_Way_walk, i_Way_walk, k_Way_walk⟩, ok_Way_walk F_Way_walk T q_Way_come q_Way_coming_by K_Way, b_Way_walk⟩⟩
  have q_ended : Cal P w K mg base 10 "ended" Ph_ended [] := ⟨⟨_, _, _, [], ok_ended F_ended T q_Way q_Way_walk K_Way, PySem.W.mg_of X G a_ended, k_ended, b_ended, .nil⟩⟩
  have q_groups_from : Cal P w K mg base 11 "groups_from" Ph_groups_from [] := ⟨⟨_, _, _, [], ok_groups_from F_groups_from T q_ended , PySem.W.mg_of X G a_groups_from, k_groups_from, b_groups_from, .nil⟩⟩
  have q_most_of : Cal P w K mg base 12 "most_of" Ph_most_of [] := ⟨⟨_, _, _, [], ok_most_of F_most_of T q_beginning q_groups_from q_look_at_weights q_numbers_of q_ratio , PySem.W.mg_of X G a_most_of, k_most_of, b_most_of, .nil⟩⟩
  exact ok_law F_law T q__law_cell q__law_known q__law_next q__law_numbers q__law_pool q__law_three q_most_of most_ok known_runs
end
theorem law_sp {K : PySem.W.Frag} {H : Hp} {a : Addr} {ns : List Int} (hl : ns.length ≤ 63) (ho : Only H) (hS : SqL K H a (ns.map V.int)) (E : XK) : spD K Ph_law [.ref a] H (fun v _ => v = .bl true) E := by
  have fr : FrL K H a (ns.map V.int) := by
    rcases hS with (z | ⟨o, z⟩) | z
    · rcases ho a with q | ⟨o, xs, q⟩
      · rw [q] at z; cases z
      · rw [q] at z; cases z
    · exact .inl ⟨o, z⟩
    · exact .inr z
  exact ⟨[.s (ns.map dI)], [], [], fun d S => d = dB true, XF, .cons (.s fr DatL.ints) .nil, .nil, by simp, ⟨ns, rfl, rfl, hl, rfl⟩, fun d S' v H' fps' _ _ _ _ _ dd hR => by rw [hR] at dd; exact dd.vv, good0⟩
theorem walk {l : PySem.W.OpenLaw} {q : Program} {loose : List Str} {XP : (Str → Option Value) → Heap → Prop} {YP : World → Heap → Prop} {d : DefRec} {K : Params → PySem.W.Frag} (hn : l.most = some 63) (hdf : d.params.defaults = [])
    (hY : ∀ (w : World) (h : Heap), YP w h → (K w.params).In h)
    (F : ∀ (w : World) (mg : Str → Option Value) (fa : Addr) (h : Heap), (K w.params).In h → h.Ns mainGlobals mg → mg d.name = some (.ref fa) →
      ∃ fd : FuncData, (∀ (s : Shared) (u : Value), BindsTo s fd ⟨[u], []⟩ [("script", u)]) ∧ ∀ base : Heap, (K w.params).In base → base.Ns mainGlobals mg → FnOk l.prog w (K w.params) mg base CX0 13 fa fd ["script"] (spD (K w.params) Ph_law)) :
    PySem.W.WalkO q loose XP YP l.row.toRowW d [] (fun f vs => PySem.call f vs) :=
  L2.walk_of (n := 63) (k := 13) (x := "script") (CX := fun w => CX0) (sp := fun w => spD (K w.params) Ph_law) hn (by decide) hdf ⟨rfl, by decide, by decide⟩ hY F (fun _ _ a ns hl ho hS => law_sp hl ho hS _) fun _ _ _ _ _ z => z
end PG
open PySem PySem.W PyProof.Rows in
set_option maxRecDepth 100000 in
set_option maxHeartbeats 0 in
theorem PySem.Challenge.cw_clackrow_k46_numbers_of_the_most_holds : PySem.Challenge.rw_clackrow_k46_numbers_of_the_most.Holds := by
  w_on; o_law; k_head; (case hw => w_witness2)
  k_fill
  refine PG.walk (l := PySem.Challenge.rw_clackrow_k46_numbers_of_the_most) rfl rfl (fun w h Y => PySem.W.kIn_of Y) ?F
  case F =>
    intro w mg fa h KX G hmg
    refine' PG.all_mk KX G hmg ?aC_Way ?pg_Way ?hd_Way ?po_Way ?sa_Way ?mk_Way ?kc_Way ?no_Way_row ?no_Way_walls ?no_Way_moment ?no_Way_comings ?a_is_whole ?l_is_whole ?c_is_whole ?k_is_whole ?a_divisor_of ?l_divisor_of ?c_divisor_of ?k_divisor_of ?a_less ?l_less ?c_less ?k_less ?a_wall_named ?l_wall_named ?c_wall_named ?k_wall_named ?a_wall_there ?l_wall_there ?c_wall_there ?k_wall_there ?a_Way___init__ ?i_Way___init__ ?l_Way___init__ ?c_Way___init__ ?k_Way___init__ ?a__law_cell ?l__law_cell ?c__law_cell ?k__law_cell ?a__law_pool ?l__law_pool ?c__law_pool ?k__law_pool ?a__law_next ?l__law_next ?c__law_next ?k__law_next ?a__law_common ?l__law_common ?c__law_common ?k__law_common ?a__law_known ?l__law_known ?c__law_known ?k__law_known ?a_ratio ?l_ratio ?lT_ratio ?c_ratio ?k_ratio ?a_comes_to ?l_comes_to ?c_comes_to ?k_comes_to ?a_rising ?l_rising ?c_rising ?k_rising ?a_is_weight ?l_is_weight ?c_is_weight ?k_is_weight ?a__law_low ?l__law_low ?c__law_low ?k__law_low ?a__law_three ?l__law_three ?c__law_three ?k__law_three ?a_plus ?l_plus ?c_plus ?k_plus ?a_minus ?l_minus ?c_minus ?k_minus ?a_times ?l_times ?c_times ?k_times ?a_over ?l_over ?c_over ?k_over ?a_groups_at ?l_groups_at ?c_groups_at ?k_groups_at ?a_look_at_weights ?l_look_at_weights ?c_look_at_weights ?k_look_at_weights ?a_factor_of ?l_factor_of ?c_factor_of ?k_factor_of ?a__law_gap ?l__law_gap ?c__law_gap ?k__law_gap ?a__law_by ?l__law_by ?c__law_by ?k__law_by ?a_place_at ?l_place_at ?c_place_at ?k_place_at ?a_meeting_moment ?l_meeting_moment ?c_meeting_moment ?k_meeting_moment ?a_two_speeds ?l_two_speeds ?c_two_speeds ?k_two_speeds ?a_numbers_of ?l_numbers_of ?c_numbers_of ?k_numbers_of ?a_beginning ?l_beginning ?c_beginning ?k_beginning ?a__law_numbers ?l__law_numbers ?c__law_numbers ?k__law_numbers ?a_gone_on ?l_gone_on ?c_gone_on ?k_gone_on ?a_least_moment ?l_least_moment ?c_least_moment ?k_least_moment ?a_together_speeds ?l_together_speeds ?c_together_speeds ?k_together_speeds ?a_walls_at ?l_walls_at ?c_walls_at ?k_walls_at ?a_row_at ?l_row_at ?c_row_at ?k_row_at ?a_rebounded ?l_rebounded ?c_rebounded ?k_rebounded ?a_Way_coming_by ?i_Way_coming_by ?l_Way_coming_by ?c_Way_coming_by ?k_Way_coming_by ?a_Way_go_on ?i_Way_go_on ?l_Way_go_on ?c_Way_go_on ?k_Way_go_on ?a_Way_come ?i_Way_come ?l_Way_come ?c_Way_come ?k_Way_come ?a_Way_walk ?i_Way_walk ?l_Way_walk ?c_Way_walk ?k_Way_walk ?a_ended ?l_ended ?c_ended ?k_ended ?a_groups_from ?l_groups_from ?c_groups_from ?k_groups_from ?a_most_of ?l_most_of ?c_most_of ?k_most_of ?a_law ?l_law ?c_law ?k_law ?z_abs ?z_all ?z_any ?z_bool ?z_enumerate ?z_int ?z_isinstance ?z_len ?z_list ?z_max ?z_range ?z_tuple ?z_zip ?g_GREATEST ?g_HIGH ?g_LOW ?g_MOST_GROUPS ?g_NOUGHT ?gl_NOUGHT ?g_ONE ?gl_ONE ?g_PLACE ?g_SPEED ?g_WEIGHT
    (case aC_Way => k_is)
    (case pg_Way => k_is)
    (case hd_Way => k_is)
    (case po_Way => k_is)
    (case sa_Way => k_is)
    (case mk_Way => k_is)
    (case kc_Way => k_is)
    (case no_Way_row => k_is)
    (case no_Way_walls => k_is)
    (case no_Way_moment => k_is)
    (case no_Way_comings => k_is)
    (case a_is_whole => k_is)
    (case l_is_whole => k_is)
    (case c_is_whole => k_is)
    (case k_is_whole => k_is)
    (case a_divisor_of => k_is)
    (case l_divisor_of => k_is)
    (case c_divisor_of => k_is)
    (case k_divisor_of => k_is)
    (case a_less => k_is)
    (case l_less => k_is)
    (case c_less => k_is)
    (case k_less => k_is)
    (case a_wall_named => k_is)
    (case l_wall_named => k_is)
    (case c_wall_named => k_is)
    (case k_wall_named => k_is)
    (case a_wall_there => k_is)
    (case l_wall_there => k_is)
    (case c_wall_there => k_is)
    (case k_wall_there => k_is)
    (case a_Way___init__ => k_is)
    (case i_Way___init__ => k_is)
    (case l_Way___init__ => k_is)
    (case c_Way___init__ => k_is)
    (case k_Way___init__ => k_is)
    (case a__law_cell => k_is)
    (case l__law_cell => k_is)
    (case c__law_cell => k_is)
    (case k__law_cell => k_is)
    (case a__law_pool => k_is)
    (case l__law_pool => k_is)
    (case c__law_pool => k_is)
    (case k__law_pool => k_is)
    (case a__law_next => k_is)
    (case l__law_next => k_is)
    (case c__law_next => k_is)
    (case k__law_next => k_is)
    (case a__law_common => k_is)
    (case l__law_common => k_is)
    (case c__law_common => k_is)
    (case k__law_common => k_is)
    (case a__law_known => k_is)
    (case l__law_known => k_is)
    (case c__law_known => k_is)
    (case k__law_known => k_is)
    (case a_ratio => k_is)
    (case l_ratio => k_is)
    (case lT_ratio => k_is)
    (case c_ratio => k_is)
    (case k_ratio => k_is)
    (case a_comes_to => k_is)
    (case l_comes_to => k_is)
    (case c_comes_to => k_is)
    (case k_comes_to => k_is)
    (case a_rising => k_is)
    (case l_rising => k_is)
    (case c_rising => k_is)
    (case k_rising => k_is)
    (case a_is_weight => k_is)
    (case l_is_weight => k_is)
    (case c_is_weight => k_is)
    (case k_is_weight => k_is)
    (case a__law_low => k_is)
    (case l__law_low => k_is)
    (case c__law_low => k_is)
    (case k__law_low => k_is)
    (case a__law_three => k_is)
    (case l__law_three => k_is)
    (case c__law_three => k_is)
    (case k__law_three => k_is)
    (case a_plus => k_is)
    (case l_plus => k_is)
    (case c_plus => k_is)
    (case k_plus => k_is)
    (case a_minus => k_is)
    (case l_minus => k_is)
    (case c_minus => k_is)
    (case k_minus => k_is)
    (case a_times => k_is)
    (case l_times => k_is)
    (case c_times => k_is)
    (case k_times => k_is)
    (case a_over => k_is)
    (case l_over => k_is)
    (case c_over => k_is)
    (case k_over => k_is)
    (case a_groups_at => k_is)
    (case l_groups_at => k_is)
    (case c_groups_at => k_is)
    (case k_groups_at => k_is)
    (case a_look_at_weights => k_is)
    (case l_look_at_weights => k_is)
    (case c_look_at_weights => k_is)
    (case k_look_at_weights => k_is)
    (case a_factor_of => k_is)
    (case l_factor_of => k_is)
    (case c_factor_of => k_is)
    (case k_factor_of => k_is)
    (case a__law_gap => k_is)
    (case l__law_gap => k_is)
    (case c__law_gap => k_is)
    (case k__law_gap => k_is)
    (case a__law_by => k_is)
    (case l__law_by => k_is)
    (case c__law_by => k_is)
    (case k__law_by => k_is)
    (case a_place_at => k_is)
    (case l_place_at => k_is)
    (case c_place_at => k_is)
    (case k_place_at => k_is)
    (case a_meeting_moment => k_is)
    (case l_meeting_moment => k_is)
    (case c_meeting_moment => k_is)
    (case k_meeting_moment => k_is)
    (case a_two_speeds => k_is)
    (case l_two_speeds => k_is)
    (case c_two_speeds => k_is)
    (case k_two_speeds => k_is)
    (case a_numbers_of => k_is)
    (case l_numbers_of => k_is)
    (case c_numbers_of => k_is)
    (case k_numbers_of => k_is)
    (case a_beginning => k_is)
    (case l_beginning => k_is)
    (case c_beginning => k_is)
    (case k_beginning => k_is)
    (case a__law_numbers => k_is)
    (case l__law_numbers => k_is)
    (case c__law_numbers => k_is)
    (case k__law_numbers => k_is)
    (case a_gone_on => k_is)
    (case l_gone_on => k_is)
    (case c_gone_on => k_is)
    (case k_gone_on => k_is)
    (case a_least_moment => k_is)
    (case l_least_moment => k_is)
    (case c_least_moment => k_is)
    (case k_least_moment => k_is)
    (case a_together_speeds => k_is)
    (case l_together_speeds => k_is)
    (case c_together_speeds => k_is)
    (case k_together_speeds => k_is)
    (case a_walls_at => k_is)
    (case l_walls_at => k_is)
    (case c_walls_at => k_is)
    (case k_walls_at => k_is)
    (case a_row_at => k_is)
    (case l_row_at => k_is)
    (case c_row_at => k_is)
    (case k_row_at => k_is)
    (case a_rebounded => k_is)
    (case l_rebounded => k_is)
    (case c_rebounded => k_is)
    (case k_rebounded => k_is)
    (case a_Way_coming_by => k_is)
    (case i_Way_coming_by => k_is)
    (case l_Way_coming_by => k_is)
    (case c_Way_coming_by => k_is)
    (case k_Way_coming_by => k_is)
    (case a_Way_go_on => k_is)
    (case i_Way_go_on => k_is)
    (case l_Way_go_on => k_is)
    (case c_Way_go_on => k_is)
    (case k_Way_go_on => k_is)
    (case a_Way_come => k_is)
    (case i_Way_come => k_is)
    (case l_Way_come => k_is)
    (case c_Way_come => k_is)
    (case k_Way_come => k_is)
    (case a_Way_walk => k_is)
    (case i_Way_walk => k_is)
    (case l_Way_walk => k_is)
    (case c_Way_walk => k_is)
    (case k_Way_walk => k_is)
    (case a_ended => k_is)
    (case l_ended => k_is)
    (case c_ended => k_is)
    (case k_ended => k_is)
    (case a_groups_from => k_is)
    (case l_groups_from => k_is)
    (case c_groups_from => k_is)
    (case k_groups_from => k_is)
    (case a_most_of => k_is)
    (case l_most_of => k_is)
    (case c_most_of => k_is)
    (case k_most_of => k_is)
    (case a_law => k_is)
    (case l_law => k_is)
    (case c_law => k_is)
    (case k_law => k_is)
    (case z_abs => k_is)
    (case z_all => k_is)
    (case z_any => k_is)
    (case z_bool => k_is)
    (case z_enumerate => k_is)
    (case z_int => k_is)
    (case z_isinstance => k_is)
    (case z_len => k_is)
    (case z_list => k_is)
    (case z_max => k_is)
    (case z_range => k_is)
    (case z_tuple => k_is)
    (case z_zip => k_is)
    (case g_GREATEST => k_is)
    (case g_HIGH => k_is)
    (case g_LOW => k_is)
    (case g_MOST_GROUPS => k_is)
    (case g_NOUGHT => k_is)
    (case gl_NOUGHT => k_is)
    (case g_ONE => k_is)
    (case gl_ONE => k_is)
    (case g_PLACE => k_is)
    (case g_SPEED => k_is)
    (case g_WEIGHT => k_is)
